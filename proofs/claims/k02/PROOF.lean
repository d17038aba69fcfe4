import PyProof.Rows.All
import Wide.All
import OpenK.AllK
import Wide.FinOn
import HandS.ForMost
import HandS.Exc
import HandS.ExcOwn
import HandS.TryOnly
import HandS.WordsExc
import HandS.Deep
import HandS.TupAny
import HandS.IsInst
import HandS.Walk
import HandS.DictTup
import HandS.Conv
import HandS.More
import HandS.Wide
import HandS.TupMul
import HandS.Flow
import KE.SortData
import HandS.SetFor
import HandS.Strs
import HandS.SortInts
import KE.GoesNew
import KE.GoesEnum
import HandS.Iter
import HandS.Small
import KE.KDictDisplayH
import KE.KDictCopyH
import KE.KDictPairs
import PyProof.Rows.StrBin
import PySem.Challenge.RW_laidmarks_k02_drift
set_option Elab.async false
set_option linter.all false
section
set_option maxRecDepth 100000
set_option maxHeartbeats 2000000
/-! DL1: data without the heap (D), how a heap bears it (Rep, Own), the frame's relation (SR), computations over frames of data (M). -/
namespace DL
open PySem PySem.Spec PyProof.Rows L2

abbrev St := L2.St
/-- data -/
inductive D where
  | non | bl (b : Bool) | int (i : Int) | str (x : Str)
  | tup (ds : List D) | lst (ds : List D)
  /-- a list that is read alone (the script, a list of the module) -/
  | rol (ds : List D)
  | dk (ks : List Key) (vs : List D) | dt (ks : List (List Key)) (vs : List D)
  deriving Inhabited

def Sub (H H' : Hp) : Prop := ∀ a o, H a = some o → H' a = some o
theorem Sub.refl (H : Hp) : Sub H H := fun _ _ h => h
theorem Sub.trans {H H1 H2 : Hp} (a : Sub H H1) (b : Sub H1 H2) : Sub H H2 := fun c o h => b c o (a c o h)
theorem Sub.same {H H' : Hp} (s : Sub H H') : Same H H' := s
theorem Sub.upd {H : Hp} {p : Addr} {o : HO} (h : H p = none) : Sub H (L2.upd H p o) := fun a u e => by
  rw [upd_ne (ne_of_none e h)]; exact e
theorem Sub.none {H H' : Hp} (s : Sub H H') {p : Addr} (h : H' p = Option.none) : H p = Option.none := by
  cases q : H p with
  | none => rfl
  | some o => rw [s p o q] at h; cases h
theorem Sub.rd {H H' : Hp} (s : Sub H H') {a : Addr} {o : HO} (h : Rd H a o) : Rd H' a o := by
  rcases h with h | ⟨u, h⟩
  · exact .inl (s _ _ h)
  · exact .inr ⟨u, s _ _ h⟩
theorem Sub.seqL {K : PySem.W.Frag} {H H' : Hp} (s : Sub H H') {a : Addr} {xs : List V} (h : SqL K H a xs) : SqL K H' a xs := by
  rcases h with h | h
  · exact .inl (s.rd h)
  · exact .inr h
theorem Sub.seqT {K : PySem.W.Frag} {H H' : Hp} (s : Sub H H') {a : Addr} {xs : List V} (h : SqT K H a xs) : SqT K H' a xs := by
  rcases h with h | h
  · exact .inl (s.rd h)
  · exact .inr h

mutual
/-- the value v is the datum d, in the part B of the heap that is never changed -/
inductive Rep (K : PySem.W.Frag) (B : Hp) : V → D → Prop
  | non : Rep K B .non .non
  | bl (b : Bool) : Rep K B (.bl b) (.bl b)
  | int (i : Int) : Rep K B (.int i) (.int i)
  | str (x : Str) : Rep K B (.str x) (.str x)
  | tup {a : Addr} {xs : List V} {ds : List D} : B a = some (.tup xs) → Reps K B xs ds → Rep K B (.ref a) (.tup ds)
  | lst {a : Addr} {xs : List V} {ds : List D} : B a = some (.lst xs) → Reps K B xs ds → Rep K B (.ref a) (.lst ds)
  | rol {a : Addr} {xs : List V} {ds : List D} : SqL K B a xs → Reps K B xs ds → Rep K B (.ref a) (.rol ds)
  | dk {a : Addr} {o : Obj} {kvs : List (Key × V)} {ks : List Key} {vs : List D} : B a = some (.frz o (.dK kvs)) → kvs.map (·.1) = ks → Reps K B (kvs.map (·.2)) vs → Rep K B (.ref a) (.dk ks vs)
  | dt {a : Addr} {o : Obj} {kvs : List (List Key × V)} {ks : List (List Key)} {vs : List D} : B a = some (.frz o (.dT kvs)) → kvs.map (·.1) = ks → Reps K B (kvs.map (·.2)) vs → Rep K B (.ref a) (.dt ks vs)
inductive Reps (K : PySem.W.Frag) (B : Hp) : List V → List D → Prop
  | nil : Reps K B [] []
  | cons {v : V} {vs : List V} {d : D} {ds : List D} : Rep K B v d → Reps K B vs ds → Reps K B (v :: vs) (d :: ds)
end
section
variable {K : PySem.W.Frag} {B B' H H' : Hp}
mutual
theorem Rep.mono (s : Sub B B') : ∀ {v : V} {d : D}, Rep K B v d → Rep K B' v d
  | _, _, .non => .non
  | _, _, .bl b => .bl b
  | _, _, .int i => .int i
  | _, _, .str x => .str x
  | _, _, .tup h r => .tup (s _ _ h) (Reps.mono s r)
  | _, _, .lst h r => .lst (s _ _ h) (Reps.mono s r)
  | _, _, .rol h r => .rol (s.seqL h) (Reps.mono s r)
  | _, _, .dk h e r => .dk (s _ _ h) e (Reps.mono s r)
  | _, _, .dt h e r => .dt (s _ _ h) e (Reps.mono s r)
theorem Reps.mono (s : Sub B B') : ∀ {vs : List V} {ds : List D}, Reps K B vs ds → Reps K B' vs ds
  | _, _, .nil => .nil
  | _, _, .cons h r => .cons (Rep.mono s h) (Reps.mono s r)
end
theorem Reps.length : ∀ {vs : List V} {ds : List D}, Reps K B vs ds → vs.length = ds.length
  | _, _, .nil => rfl
  | _, _, .cons _ r => by rw [List.length_cons, List.length_cons, Reps.length r]
theorem Reps.append : ∀ {vs ws : List V} {ds es : List D}, Reps K B vs ds → Reps K B ws es → Reps K B (vs ++ ws) (ds ++ es)
  | _, _, _, _, .nil, h => h
  | _, _, _, _, .cons a r, h => .cons a (Reps.append r h)
theorem Reps.get : ∀ {vs : List V} {ds : List D} {i : Nat} {v : V}, Reps K B vs ds → vs[i]? = some v → ∃ d, ds[i]? = some d ∧ Rep K B v d
  | _, _, _, _, .nil, e => by simp at e
  | _, _, 0, _, .cons a _, e => by simp at e; subst e; exact ⟨_, rfl, a⟩
  | _, _, i + 1, _, .cons _ r, e => by
    obtain ⟨d, h1, h2⟩ := Reps.get (i := i) r (by simpa using e)
    exact ⟨d, by simpa using h1, h2⟩
theorem Reps.get' : ∀ {vs : List V} {ds : List D} {i : Nat} {d : D}, Reps K B vs ds → ds[i]? = some d → ∃ v, vs[i]? = some v ∧ Rep K B v d
  | _, _, _, _, .nil, e => by simp at e
  | _, _, 0, _, .cons a _, e => by simp at e; subst e; exact ⟨_, rfl, a⟩
  | _, _, i + 1, _, .cons _ r, e => by
    obtain ⟨d, h1, h2⟩ := Reps.get' (i := i) r (by simpa using e)
    exact ⟨d, by simpa using h1, h2⟩
theorem Reps.take : ∀ {vs : List V} {ds : List D} (n : Nat), Reps K B vs ds → Reps K B (vs.take n) (ds.take n)
  | _, _, 0, _ => by simpa using Reps.nil
  | _, _, _ + 1, .nil => .nil
  | _, _, n + 1, .cons a r => .cons a (Reps.take n r)
theorem Reps.drop : ∀ {vs : List V} {ds : List D} (n : Nat), Reps K B vs ds → Reps K B (vs.drop n) (ds.drop n)
  | _, _, 0, h => h
  | _, _, _ + 1, .nil => .nil
  | _, _, n + 1, .cons _ r => Reps.drop n r
theorem Reps.set {v : V} {d : D} (h : Rep K B v d) : ∀ {vs : List V} {ds : List D} (i : Nat), Reps K B vs ds → Reps K B (vs.set i v) (ds.set i d)
  | _, _, _, .nil => .nil
  | _, _, 0, .cons _ r => .cons h r
  | _, _, i + 1, .cons a r => .cons a (Reps.set h i r)
theorem Reps.dropLast : ∀ {vs : List V} {ds : List D}, Reps K B vs ds → Reps K B vs.dropLast ds.dropLast := fun {vs ds} h => by
  rw [List.dropLast_eq_take, List.dropLast_eq_take, h.length]; exact h.take _
theorem Reps.eraseIdx : ∀ {vs : List V} {ds : List D} (i : Nat), Reps K B vs ds → Reps K B (vs.eraseIdx i) (ds.eraseIdx i)
  | _, _, _, .nil => .nil
  | _, _, 0, .cons _ r => r
  | _, _, i + 1, .cons a r => .cons a (Reps.eraseIdx i r)
theorem Reps.reverse : ∀ {vs : List V} {ds : List D}, Reps K B vs ds → Reps K B vs.reverse ds.reverse
  | _, _, .nil => .nil
  | _, _, .cons a r => by rw [List.reverse_cons, List.reverse_cons]; exact (Reps.reverse r).append (.cons a .nil)

/-- the object at p, which may be changed, is the datum -/
def Own (K : PySem.W.Frag) (H B : Hp) (p : Addr) : D → Prop
  | .lst ds => ∃ xs, H p = some (.lst xs) ∧ Reps K B xs ds
  | .dk ks vs => ∃ kvs, H p = some (.dK kvs) ∧ kvs.map (·.1) = ks ∧ Reps K B (kvs.map (·.2)) vs
  | .dt ks vs => ∃ kvs, H p = some (.dT kvs) ∧ kvs.map (·.1) = ks ∧ Reps K B (kvs.map (·.2)) vs
  | _ => False
theorem Own.there {p : Addr} {d : D} (h : Own K H B p d) : ∃ o, H p = some o := by
  cases d <;> first | exact h.elim | exact ⟨_, h.choose_spec.1⟩
theorem Own.ne {p : Addr} {d : D} (h : Own K H B p d) : H p ≠ Option.none := by
  obtain ⟨o, e⟩ := h.there; rw [e]; simp
/-- an object that can be changed stands at a -/
def mutb : HO → Bool
  | .lst _ => true
  | .dK _ => true
  | .dT _ => true
  | _ => false
def Ch (H : Hp) (a : Addr) : Prop := ∃ o, H a = some o ∧ mutb o = true
theorem Ch.ne {a : Addr} (h : Ch H a) : H a ≠ Option.none := by obtain ⟨o, e, _⟩ := h; rw [e]; simp
theorem Ch.sub {a : Addr} (h : Ch H a) (s : Sub H H') : Ch H' a := by obtain ⟨o, e, c⟩ := h; exact ⟨o, s _ _ e, c⟩
theorem Own.ch {p : Addr} {d : D} (h : Own K H B p d) : Ch H p := by
  cases d <;> first | exact h.elim | exact ⟨_, h.choose_spec.1, rfl⟩
theorem Own.mono {p : Addr} {d : D} (h : Own K H B p d) (e : H' p = H p) (s : Sub B B') : Own K H' B' p d := by
  cases d with
  | lst ds => obtain ⟨xs, h1, h2⟩ := h; exact ⟨xs, by rw [e]; exact h1, h2.mono s⟩
  | dk ks vs => obtain ⟨xs, h1, h2, h3⟩ := h; exact ⟨xs, by rw [e]; exact h1, h2, h3.mono s⟩
  | dt ks vs => obtain ⟨xs, h1, h2, h3⟩ := h; exact ⟨xs, by rw [e]; exact h1, h2, h3.mono s⟩
  | _ => exact h.elim
/-- how an object is seen from when on it is never changed: a dict is locked -/
def Frz : HO → HO → Prop
  | .lst xs, o => o = .lst xs
  | .dK kvs, o => ∃ od, o = .frz od (.dK kvs)
  | .dT kvs, o => ∃ od, o = .frz od (.dT kvs)
  | _, _ => False
theorem Own.frozen {p : Addr} {d : D} (h : Own K H B p d) (n : B p = none) {u o : HO} (hu : H p = some u) (f : Frz u o) : Rep K (upd B p o) (.ref p) d := by
  have s : Sub B (L2.upd B p o) := Sub.upd n
  cases d with
  | lst ds => obtain ⟨xs, h1, h2⟩ := h; rw [hu] at h1; cases h1; cases f; exact .lst upd_same (h2.mono s)
  | dk ks vs => obtain ⟨xs, h1, h2, h3⟩ := h; rw [hu] at h1; cases h1; obtain ⟨od, rfl⟩ := f; exact .dk upd_same h2 (h3.mono s)
  | dt ks vs => obtain ⟨xs, h1, h2, h3⟩ := h; rw [hu] at h1; cases h1; obtain ⟨od, rfl⟩ := f; exact .dt upd_same h2 (h3.mono s)
  | _ => exact h.elim
theorem Inv.frz {X : Cx} {pins : List (Addr × Obj)} {σ : St} {H : Hp} {s : Shared} {B : Hp} {p : Addr} {d : D} (I : Inv X pins σ H s) (h : Own K H B p d) : ∃ u o, H p = some u ∧ Frz u o ∧ Inv X pins σ (upd H p o) s := by
  cases d with
  | lst ds =>
    obtain ⟨xs, h1, h2⟩ := h
    refine ⟨_, .lst xs, h1, rfl, ?_⟩
    have e : upd H p (.lst xs) = H := by
      funext b
      by_cases q : b = p
      · subst q; rw [upd_same, h1]
      · rw [upd_ne q]
    rw [e]; exact I
  | dk ks vs =>
    obtain ⟨xs, h1, h2⟩ := h
    obtain ⟨od, J⟩ := I.lock h1 trivial
    exact ⟨_, _, h1, ⟨od, rfl⟩, J⟩
  | dt ks vs =>
    obtain ⟨xs, h1, h2⟩ := h
    obtain ⟨od, J⟩ := I.lock h1 trivial
    exact ⟨_, _, h1, ⟨od, rfl⟩, J⟩
  | _ => exact h.elim
/-- as it stands now: never changed, or owned -/
def RepN (K : PySem.W.Frag) (H B : Hp) (v : V) (d : D) : Prop := Rep K B v d ∨ ∃ p, v = .ref p ∧ B p = none ∧ Own K H B p d
inductive RepNs (K : PySem.W.Frag) (H B : Hp) : List V → List D → Prop
  | nil : RepNs K H B [] []
  | cons {v : V} {vs : List V} {d : D} {ds : List D} : RepN K H B v d → RepNs K H B vs ds → RepNs K H B (v :: vs) (d :: ds)
theorem RepN.lst {v : V} {ds : List D} (s : Sub B H) (h : RepN K H B v (.lst ds)) : ∃ a xs, v = .ref a ∧ H a = some (.lst xs) ∧ Reps K B xs ds := by
  rcases h with h | ⟨p, e, n, xs, h1, h2⟩
  · cases h with | lst a b => exact ⟨_, _, rfl, s _ _ a, b⟩
  · exact ⟨p, xs, e, h1, h2⟩
theorem RepN.rol {v : V} {ds : List D} (s : Sub B H) (h : RepN K H B v (.rol ds)) : ∃ a xs, v = .ref a ∧ SqL K H a xs ∧ SqL K B a xs ∧ Reps K B xs ds := by
  rcases h with h | ⟨p, e, n, h⟩
  · cases h with | rol a b => exact ⟨_, _, rfl, s.seqL a, a, b⟩
  · exact h.elim
theorem RepN.tup {v : V} {ds : List D} (s : Sub B H) (h : RepN K H B v (.tup ds)) : ∃ a xs, v = .ref a ∧ SqT K H a xs ∧ B a = some (.tup xs) ∧ Reps K B xs ds := by
  rcases h with h | ⟨p, e, n, h⟩
  · cases h with | tup a b => exact ⟨_, _, rfl, .inl (.inl (s _ _ a)), a, b⟩
  · exact h.elim
theorem RepN.dk {v : V} {ks : List Key} {ds : List D} (s : Sub B H) (h : RepN K H B v (.dk ks ds)) : ∃ a kvs, v = .ref a ∧ Rd H a (.dK kvs) ∧ kvs.map (·.1) = ks ∧ Reps K B (kvs.map (·.2)) ds := by
  rcases h with h | ⟨p, e, n, xs, h1, h2⟩
  · cases h with | dk a b c => exact ⟨_, _, rfl, .inr ⟨_, s _ _ a⟩, b, c⟩
  · exact ⟨p, xs, e, .inl h1, h2⟩
theorem RepN.dt {v : V} {ks : List (List Key)} {ds : List D} (s : Sub B H) (h : RepN K H B v (.dt ks ds)) : ∃ a kvs, v = .ref a ∧ Rd H a (.dT kvs) ∧ kvs.map (·.1) = ks ∧ Reps K B (kvs.map (·.2)) ds := by
  rcases h with h | ⟨p, e, n, xs, h1, h2⟩
  · cases h with | dt a b c => exact ⟨_, _, rfl, .inr ⟨_, s _ _ a⟩, b, c⟩
  · exact ⟨p, xs, e, .inl h1, h2⟩
theorem RepN.int {v : V} {i : Int} (h : RepN K H B v (.int i)) : v = .int i := by
  rcases h with h | ⟨p, e, n, h⟩
  · cases h; rfl
  · exact h.elim
theorem RepN.bl {v : V} {i : Bool} (h : RepN K H B v (.bl i)) : v = .bl i := by
  rcases h with h | ⟨p, e, n, h⟩
  · cases h; rfl
  · exact h.elim
theorem RepN.str {v : V} {i : Str} (h : RepN K H B v (.str i)) : v = .str i := by
  rcases h with h | ⟨p, e, n, h⟩
  · cases h; rfl
  · exact h.elim
theorem RepN.non {v : V} (h : RepN K H B v .non) : v = .non := by
  rcases h with h | ⟨p, e, n, h⟩
  · cases h; rfl
  · exact h.elim
theorem RepN.isNon {v : V} {d : D} (h : RepN K H B v d) : (v = .non) ↔ d = .non := by
  rcases h with h | ⟨p, e, n, h⟩
  · cases h <;> simp
  · subst e; cases d <;> first | exact h.elim | simp
end

/-! ### frames of data -/
/-- a slot's content: shared (never changed any more), owned by the frame (a list, a dict that no one else holds), a caller's that may be changed -/
inductive Sl where
  | sh (d : D) | ow (d : D) | mu (d : D)
  deriving Inhabited
def Sl.d : Sl → D | .sh d => d | .ow d => d | .mu d => d
def Sl.isOwn : Sl → Bool | .sh _ => false | _ => true
abbrev Ev := List (Option Sl)
/-- an exception: its class's name, its fields -/
structure Ex where
  c : Str
  fs : List (Str × D)
inductive R (α : Type) where
  | ok (a : α) (e : Ev) | exn (x : Ex) (e : Ev) | bad
abbrev M (α : Type) := Ev → R α
def bd {α β : Type} (r : R α) (k : α → Ev → R β) : R β := match r with
  | .ok a e => k a e
  | .exn x e => .exn x e
  | .bad => .bad
theorem bd_ok {α β : Type} (a : α) (e : Ev) (k : α → Ev → R β) : bd (.ok a e) k = k a e := rfl
theorem bd_exn {α β : Type} (x : Ex) (e : Ev) (k : α → Ev → R β) : bd (.exn x e) k = .exn x e := rfl
theorem bd_bad {α β : Type} (k : α → Ev → R β) : bd .bad k = .bad := rfl

/-- what a def's body starts from: the number of its slots, the written part, the heap and its unchanged part at the entry, the places of the caller's that may be changed -/
structure Fr where
  n : Nat
  K : PySem.W.Frag
  mg : Str → Option Value
  H0 : Hp
  B0 : Hp
  mp : List (Nat × Addr)

def SlR (F : Fr) (σ : St) (H B : Hp) (i : Nat) : Sl → Prop
  | .sh d => ∃ v, σ[i]? = some (some v) ∧ Rep F.K B v d
  | .ow d => ∃ p, σ[i]? = some (some (.ref p)) ∧ B p = none ∧ F.H0 p = none ∧ Own F.K H B p d
  | .mu d => ∃ p, σ[i]? = some (some (.ref p)) ∧ B p = none ∧ (i, p) ∈ F.mp ∧ Own F.K H B p d

structure SR (F : Fr) (σ : St) (H B : Hp) (e : Ev) : Prop where
  b0 : Sub F.B0 F.H0
  sub : Sub B H
  kept : ∀ a o, F.H0 a = some o → a ∉ F.mp.map (·.2) → H a = some o
  nwB : ∀ a, Ch F.H0 a → B a = F.B0 a
  len : σ.length = e.length
  sl : ∀ (i : Nat) (s : Sl), e[i]? = some (some s) → SlR F σ H B i s
  sep : ∀ (i j : Nat) (s s' : Sl) (p : Addr), i ≠ j → e[i]? = some (some s) → e[j]? = some (some s') → s.isOwn = true → s'.isOwn = true → σ[i]? = some (some (.ref p)) → σ[j]? ≠ some (some (.ref p))
  mus : ∀ (i : Nat) (p : Addr), (i, p) ∈ F.mp → ∃ d : D, e[i]? = some (some (.mu d)) ∧ σ[i]? = some (some (.ref p))

/-- nothing that stood is changed; what is new in the unchanged part is new in the heap -/
structure Al (H B H' B' : Hp) : Prop where
  same : Sub H H'
  subB : Sub B B'
  sub' : Sub B' H'
  nw : ∀ a, Ch H a → B' a = B a
section
variable {F : Fr} {σ : St} {H B H' B' : Hp} {e : Ev}
theorem Al.refl (s : Sub B H) : Al H B H B := ⟨.refl _, .refl _, s, fun _ _ => rfl⟩
theorem Al.trans {H1 B1 H2 B2 : Hp} (a : Al H B H1 B1) (b : Al H1 B1 H2 B2) : Al H B H2 B2 :=
  ⟨a.same.trans b.same, a.subB.trans b.subB, b.sub', fun c h => by
    rw [b.nw c (h.sub a.same), a.nw c h]⟩
/-- a new object that is never changed -/
theorem Al.new (s : Sub B H) {p : Addr} {o : HO} (n : H p = none) : Al H B (upd H p o) (upd B p o) := by
  refine ⟨.upd n, .upd (s.none n), fun a u h => ?_, fun a h => ?_⟩
  · by_cases q : a = p
    · subst q; rw [upd_same] at h; rw [upd_same]; exact h
    · rw [upd_ne q] at h; rw [upd_ne q]; exact s _ _ h
  · have q : a ≠ p := fun z => by subst z; exact h.ne n
    rw [upd_ne q]
theorem SR.old (h : SR F σ H B e) {a : Addr} (n : F.H0 a ≠ none) : H a ≠ none := by
  by_cases m : a ∈ F.mp.map (·.2)
  · obtain ⟨⟨i, p⟩, hm, rfl⟩ := List.mem_map.mp m
    obtain ⟨d, h1, h2⟩ := h.mus i p hm
    obtain ⟨p', h3, _, _, ow⟩ := h.sl _ _ h1
    rw [h2] at h3; cases h3
    exact ow.ne
  · cases q : F.H0 a with
    | none => exact absurd q n
    | some o => rw [h.kept a o q m]; simp
theorem SR.oldC (h : SR F σ H B e) {a : Addr} (n : Ch F.H0 a) : Ch H a := by
  by_cases m : a ∈ F.mp.map (·.2)
  · obtain ⟨⟨i, p⟩, hm, rfl⟩ := List.mem_map.mp m
    obtain ⟨d, h1, h2⟩ := h.mus i p hm
    obtain ⟨p', h3, _, _, ow⟩ := h.sl _ _ h1
    rw [h2] at h3; cases h3
    exact ow.ch
  · obtain ⟨o, q, c⟩ := n
    exact ⟨o, h.kept a o q m, c⟩
theorem SR.new0 (h : SR F σ H B e) {a : Addr} (n : H a = none) : F.H0 a = none := by
  cases q : F.H0 a with
  | none => rfl
  | some o => exact absurd n (h.old (by rw [q]; simp))
theorem SlR.step {i : Nat} {s : Sl} (h : SlR F σ H B i s) (same : ∀ p, B p = none → σ[i]? = some (some (.ref p)) → s.isOwn = true → H' p = H p ∧ B' p = none) (sb : Sub B B') : SlR F σ H' B' i s := by
  cases s with
  | sh d => obtain ⟨v, h1, h2⟩ := h; exact ⟨v, h1, h2.mono sb⟩
  | ow d =>
    obtain ⟨p, h1, h2, h3, h4⟩ := h
    obtain ⟨q1, q2⟩ := same p h2 h1 rfl
    exact ⟨p, h1, q2, h3, h4.mono q1 sb⟩
  | mu d =>
    obtain ⟨p, h1, h2, h3, h4⟩ := h
    obtain ⟨q1, q2⟩ := same p h2 h1 rfl
    exact ⟨p, h1, q2, h3, h4.mono q1 sb⟩
theorem SlR.own {i : Nat} {s : Sl} (h : SlR F σ H B i s) (o : s.isOwn = true) : ∃ p, σ[i]? = some (some (.ref p)) ∧ B p = none ∧ Own F.K H B p s.d := by
  cases s with
  | sh d => cases o
  | ow d => obtain ⟨p, h1, h2, _, h4⟩ := h; exact ⟨p, h1, h2, h4⟩
  | mu d => obtain ⟨p, h1, h2, _, h4⟩ := h; exact ⟨p, h1, h2, h4⟩
theorem SlR.repN {i : Nat} {s : Sl} (h : SlR F σ H B i s) : ∃ v, σ[i]? = some (some v) ∧ RepN F.K H B v s.d := by
  cases s with
  | sh d => obtain ⟨v, h1, h2⟩ := h; exact ⟨v, h1, .inl h2⟩
  | ow d => obtain ⟨p, h1, h2, _, h4⟩ := h; exact ⟨_, h1, .inr ⟨p, rfl, h2, h4⟩⟩
  | mu d => obtain ⟨p, h1, h2, _, h4⟩ := h; exact ⟨_, h1, .inr ⟨p, rfl, h2, h4⟩⟩
theorem SR.al (h : SR F σ H B e) (a : Al H B H' B') : SR F σ H' B' e where
  b0 := h.b0
  sub := a.sub'
  kept := fun c o q m => a.same _ _ (h.kept c o q m)
  nwB := fun c q => by rw [a.nw c (h.oldC q)]; exact h.nwB c q
  len := h.len
  sl := fun i s q => (h.sl i s q).step (fun p n z o => by
    obtain ⟨p', h1, h2, h3⟩ := (h.sl i s q).own o
    rw [z] at h1; cases h1
    obtain ⟨o, ho⟩ := h3.there
    exact ⟨by rw [a.same _ _ ho, ho], by rw [a.nw p h3.ch]; exact n⟩) a.subB
  sep := h.sep
  mus := h.mus
/-- an owned object that no slot names is shared from now on -/
theorem SR.share {p : Addr} {d : D} {u o : HO} (h : SR F σ H B e) (hn : B p = none) (h0 : F.H0 p = none) (ow : Own F.K H B p d) (hu : H p = some u) (f : Frz u o)
    (ns : ∀ (j : Nat) (s : Sl), e[j]? = some (some s) → s.isOwn = true → σ[j]? ≠ some (some (.ref p))) : SR F σ (upd H p o) (upd B p o) e ∧ Sub B (upd B p o) ∧ Rep F.K (upd B p o) (.ref p) d := by
  refine ⟨⟨h.b0, fun a u z => ?_, fun a u z m => ?_, fun a z => ?_, h.len, fun j s z => ?_, h.sep, h.mus⟩, .upd hn, ow.frozen hn hu f⟩
  · by_cases hz : a = p
    · subst hz; rw [upd_same] at z; rw [upd_same]; exact z
    · rw [upd_ne hz] at z; rw [upd_ne hz]; exact h.sub _ _ z
  · rw [upd_ne (ne_of_none z h0)]; exact h.kept a u z m
  · have hz : a ≠ p := fun y => by subst y; exact z.ne h0
    rw [upd_ne hz]; exact h.nwB a z
  · refine (h.sl j s z).step (fun p' n w o' => ?_) (.upd hn)
    have hne : p' ≠ p := fun y => ns j s z o' (by rw [← y]; exact w)
    rw [upd_ne hne, upd_ne hne]; exact ⟨rfl, n⟩
/-- a slot is set -/
theorem SR.set {i : Nat} {v : V} {s : Sl} (h : SR F σ H B e) (hv : SlR F (σ.set i (some v)) H B i s) (il : i < e.length) (nm : ∀ d, e[i]? ≠ some (some (.mu d))) (sm : ∀ d, s ≠ .mu d)
    (ns : s.isOwn = true → ∀ (j : Nat) (s' : Sl), j ≠ i → e[j]? = some (some s') → s'.isOwn = true → ∀ p, v = .ref p → σ[j]? ≠ some (some (.ref p))) : SR F (σ.set i (some v)) H B (e.set i (some s)) := by
  have iσ : i < σ.length := by rw [h.len]; exact il
  have get : ∀ (j : Nat) (s' : Sl), (e.set i (some s))[j]? = some (some s') → (j = i ∧ s' = s) ∨ (j ≠ i ∧ e[j]? = some (some s')) := fun j s' z => by
    by_cases hj : j = i
    · subst hj; rw [List.getElem?_set_self il] at z; cases z; exact .inl ⟨rfl, rfl⟩
    · rw [List.getElem?_set_ne (Ne.symm hj)] at z; exact .inr ⟨hj, z⟩
  have gσ : ∀ j, j ≠ i → (σ.set i (some v))[j]? = σ[j]? := fun j hj => List.getElem?_set_ne (Ne.symm hj)
  have gi : (σ.set i (some v))[i]? = some (some v) := List.getElem?_set_self iσ
  refine ⟨h.b0, h.sub, h.kept, h.nwB, by rw [List.length_set, List.length_set]; exact h.len, fun j s' z => ?_, fun j k s1 s2 p hjk z1 z2 o1 o2 w w' => ?_, fun j p z => ?_⟩
  · rcases get j s' z with ⟨rfl, rfl⟩ | ⟨hj, z⟩
    · exact hv
    · have q := h.sl j s' z
      cases s' with
      | sh d => obtain ⟨w, h1, h2⟩ := q; exact ⟨w, by rw [gσ j hj]; exact h1, h2⟩
      | ow d => obtain ⟨w, h1, h2⟩ := q; exact ⟨w, by rw [gσ j hj]; exact h1, h2⟩
      | mu d => obtain ⟨w, h1, h2⟩ := q; exact ⟨w, by rw [gσ j hj]; exact h1, h2⟩
  · rcases get j s1 z1 with ⟨ej, es⟩ | ⟨hj, y1⟩
    · rcases get k s2 z2 with ⟨ek, _⟩ | ⟨hk, y2⟩
      · exact hjk (ej.trans ek.symm)
      · subst ej es
        rw [gi] at w
        rw [gσ k hk] at w'
        cases w
        exact ns o1 k s2 hk y2 o2 p rfl w'
    · rw [gσ j hj] at w
      rcases get k s2 z2 with ⟨ek, es⟩ | ⟨hk, y2⟩
      · subst ek es
        rw [gi] at w'
        cases w'
        exact ns o2 j s1 hj y1 o1 p rfl w
      · rw [gσ k hk] at w'
        exact h.sep j k s1 s2 p hjk y1 y2 o1 o2 w w'
  · obtain ⟨d, z1, z2⟩ := h.mus j p z
    have hj : j ≠ i := fun y => by subst y; exact nm d z1
    exact ⟨d, by rw [List.getElem?_set_ne (Ne.symm hj)]; exact z1, by rw [gσ j hj]; exact z2⟩
/-- a slot forgotten -/
theorem SR.drop {i : Nat} (h : SR F σ H B e) (nm : ∀ d, e[i]? ≠ some (some (.mu d))) : SR F σ H B (e.set i none) := by
  have get : ∀ (j : Nat) (s' : Sl), (e.set i none)[j]? = some (some s') → j ≠ i ∧ e[j]? = some (some s') := fun j s' z => by
    by_cases hj : j = i
    · subst hj
      by_cases il : j < e.length
      · rw [List.getElem?_set_self il] at z; cases z
      · rw [List.getElem?_eq_none (by simpa using il)] at z; cases z
    · rw [List.getElem?_set_ne (Ne.symm hj)] at z; exact ⟨hj, z⟩
  refine ⟨h.b0, h.sub, h.kept, h.nwB, by rw [List.length_set]; exact h.len, fun j s' z => h.sl j s' (get j s' z).2, fun j k s1 s2 p hjk z1 z2 => h.sep j k s1 s2 p hjk (get j s1 z1).2 (get k s2 z2).2, fun j p z => ?_⟩
  obtain ⟨d, z1, z2⟩ := h.mus j p z
  have hj : j ≠ i := fun y => by subst y; exact nm d z1
  exact ⟨d, by rw [List.getElem?_set_ne (Ne.symm hj)]; exact z1, z2⟩
theorem set_self {σ : St} {i : Nat} {v : V} (h : σ[i]? = some (some v)) : σ.set i (some v) = σ := by
  apply List.ext_getElem?
  intro j
  by_cases hj : j = i
  · subst hj; rw [List.getElem?_set_self (List.getElem?_eq_some_iff.mp h).1, h]
  · rw [List.getElem?_set_ne (Ne.symm hj)]
theorem SR.freeze {i : Nat} {d : D} {p : Addr} {u o : HO} (h : SR F σ H B e) (q : e[i]? = some (some (.ow d))) (hp : σ[i]? = some (some (.ref p))) (hu : H p = some u) (f : Frz u o) :
    SR F σ (upd H p o) (upd B p o) (e.set i (some (.sh d))) ∧ Sub B (upd B p o) ∧ Rep F.K (upd B p o) (.ref p) d := by
  obtain ⟨p', h1, h2, h3, h4⟩ := h.sl _ _ q
  rw [hp] at h1; cases h1
  have il : i < e.length := (List.getElem?_eq_some_iff.mp q).1
  have nm : ∀ d', e[i]? ≠ some (some (.mu d')) := fun d' z => by rw [q] at z; cases z
  have D1 := h.drop nm
  obtain ⟨S, b, r⟩ := D1.share (d := d) h2 h3 h4 hu f (fun j s z o' w => by
    by_cases hj : j = i
    · subst hj; rw [List.getElem?_set_self il] at z; cases z
    · rw [List.getElem?_set_ne (Ne.symm hj)] at z
      exact h.sep i j _ _ p (Ne.symm hj) q z rfl o' hp w)
  have T := S.set (i := i) (v := .ref p) (s := .sh d) ⟨_, by rw [set_self hp]; exact hp, r⟩ (by rw [List.length_set]; exact il) (fun d' z => by rw [List.getElem?_set_self il] at z; cases z) (fun _ z => by cases z) (fun z => by cases z)
  rw [set_self hp, List.set_set] at T
  exact ⟨T, b, r⟩
end
end DL

end
section
set_option maxRecDepth 100000
set_option maxHeartbeats 2000000
/-! DL2: expressions: what a computation over frames of data says of a reading (tE, tV, tT), operands, operations by data. -/
namespace DL
open PySem PySem.Spec PyProof.Rows L2

/-- the exception of class cls with its own dict at dd -/
def ExR (F : Fr) (H B : Hp) (x : Ex) (cls : Value) (dd : Option Addr) : Prop :=
  (∃ C, F.mg x.c = some (.ref C) ∧ cls = .ref C) ∧
    match x.fs with
    | [] => dd = none
    | _ => ∃ a vs, dd = some a ∧ H a = some (.xd vs) ∧ vs.map (·.1) = x.fs.map (·.1) ∧ Reps F.K B (vs.map (·.2)) (x.fs.map (·.2))
/-- σ: the frame's slots; z: these and what is held besides (operands that stand) -/
def OutR (F : Fr) (W : WX) (σ z : St) (B : Hp) {α : Type} (r : R α) (k : α → Ev → Hp → Hp → Prop) : Prop := match r with
  | .ok a e' => ∀ H' B', SR F z H' B' e' → Sub B B' → k a e' H' B'
  | .exn x e' => ∀ cls dd y H' B', SR F (σ ++ y) H' B' e' → Sub B B' → ExR F H' B' x cls dd → W cls dd σ H'
  | .bad => False
section
variable {F : Fr} {W : WX} {σ z : St} {H B B1 H' B' : Hp} {e : Ev} {α β : Type} {r : R α}
theorem OutR.mono {k k' : α → Ev → Hp → Hp → Prop} (h : OutR F W σ z B r k) (f : ∀ a e' H' B', SR F z H' B' e' → Sub B B' → k a e' H' B' → k' a e' H' B') : OutR F W σ z B r k' := by
  cases r with
  | ok a e' => exact fun H' B' S s => f a e' H' B' S s (h H' B' S s)
  | exn x e' => exact h
  | bad => exact h
theorem OutR.sub {k : α → Ev → Hp → Hp → Prop} (s : Sub B B1) (h : OutR F W σ z B r k) : OutR F W σ z B1 r k := by
  cases r with
  | ok a e' => exact fun H' B' S s' => h H' B' S (s.trans s')
  | exn x e' => exact fun c d y H' B' S s' => h c d y H' B' S (s.trans s')
  | bad => exact h
theorem OutR.bd {g : α → Ev → R β} {k : β → Ev → Hp → Hp → Prop} (h : OutR F W σ z B (bd r g) k) : OutR F W σ z B r (fun a e' H' B' => OutR F W σ z B' (g a e') k) := by
  cases r with
  | ok a e' => exact fun H' B' S s => OutR.sub s h
  | exn x e' => exact h
  | bad => exact h
/-- p is a new list or dict, no slot names it -/
structure FreshAt (F : Fr) (σ : St) (e : Ev) (H B : Hp) (p : Addr) (d : D) : Prop where
  nB : B p = none
  n0 : F.H0 p = none
  own : Own F.K H B p d
  ns : ∀ (j : Nat) (s : Sl), e[j]? = some (some s) → s.isOwn = true → σ[j]? ≠ some (some (.ref p))
def SlV (F : Fr) (σ : St) (e : Ev) (H B : Hp) (s : Sl) (v : V) : Prop := match s with
  | .sh d => Rep F.K B v d
  | .ow d => ∃ p, v = .ref p ∧ FreshAt F σ e H B p d
  | .mu _ => False
end

/-- the reading of an expression that computes f; .. whose value is never changed any more; of a test. y: what is held besides the slots -/
def tE (F : Fr) (W : WX) (f : M Sl) : TE := fun σ H Q => ∃ B e y, σ.length = F.n ∧ SR F (σ ++ y) H B e ∧ OutR F W σ (σ ++ y) B (f e) fun s e' H' B' => ∀ v, SlV F (σ ++ y) e' H' B' s v → Q v H'
def tV (F : Fr) (W : WX) (f : M Sl) : TE := fun σ H Q => ∃ B e y, σ.length = F.n ∧ SR F (σ ++ y) H B e ∧ OutR F W σ (σ ++ y) B (f e) fun s e' H' B' => ∀ v, Rep F.K B' v s.d → Q v H'
def tT (F : Fr) (W : WX) (f : M Bool) : TT := fun σ H Q => ∃ B e y, σ.length = F.n ∧ SR F (σ ++ y) H B e ∧ OutR F W σ (σ ++ y) B (f e) fun b e' H' B' => Q b H'
end DL
namespace L2
open PySem PySem.Spec PyProof.Rows
section
variable {X : Cx}
theorem PE.imp {e : Expr} {t t' : TE} (h : PE X e t) (i : ∀ σ H Q, t' σ H Q → t σ H Q) : PE X e t' := ⟨fun pins s σ H Q I q => h.run pins s σ H Q I (i σ H Q q)⟩
theorem PT.imp {e : Expr} {t t' : TT} (h : PT X e t) (i : ∀ σ H Q, t' σ H Q → t σ H Q) : PT X e t' := ⟨fun pins s σ H Q I q => h.run pins s σ H Q I (i σ H Q q)⟩
theorem PW.imp {e : Expr} {t t' : TT} (h : PW X e t) (i : ∀ σ H Q, t' σ H Q → t σ H Q) : PW X e t' := ⟨fun w pins s σ H Q I q => h.run w pins s σ H Q I (i σ H Q q)⟩
theorem PA.imp {es : List Expr} {t t' : TA} (h : PA X es t) (i : ∀ σ H Q, t' σ H Q → t σ H Q) : PA X es t' := ⟨fun p pins s σ H Q I q => h.run p pins s σ H Q I (i σ H Q q)⟩
theorem PS.imp {st : Stmt} {t t' : TS} (h : PS X st t) (i : ∀ D σ H, t' D σ H → t D σ H) : PS X st t' := ⟨fun pins s σ H D I q => h.run pins s σ H D I (i D σ H q)⟩
theorem PSs.imp {st : List Stmt} {t t' : TS} (h : PSs X st t) (i : ∀ D σ H, t' D σ H → t D σ H) : PSs X st t' := ⟨fun pins s σ H D I q => h.run pins s σ H D I (i D σ H q)⟩
theorem PG.imp {tg : Expr} {t t' : TG} (h : PG X tg t) (i : ∀ v σ H Q, t' v σ H Q → t v σ H Q) : PG X tg t' := ⟨fun pins s σ H v u Q I r q => h.run pins s σ H v u Q I r (i v σ H Q q)⟩
end
end L2
namespace DL
open PySem PySem.Spec PyProof.Rows L2
section
variable {X : Cx} {F : Fr} {W : WX}
/-- a new list or dict is never changed from now on -/
theorem PE.frz {ex : Expr} {f : M Sl} (h : PE X ex (tE F W f)) : PE X ex (tV F W f) := by
  refine ⟨fun pins s σ H Q I q => ?_⟩
  obtain ⟨B, e, y, hl, S, o⟩ := q
  have key : tE F W f σ H (fun v H' => ∃ sl e' B', SR F (σ ++ y) H' B' e' ∧ SlV F (σ ++ y) e' H' B' sl v ∧ ∀ H2 B2, SR F (σ ++ y) H2 B2 e' → Sub B' B2 → Rep F.K B2 v sl.d → Q v H2) := by
    refine ⟨B, e, y, hl, S, ?_⟩
    cases hr : f e with
    | ok a e1 =>
      rw [hr] at o
      exact fun H' B' S' s' v hv => ⟨a, e1, B', S', hv, fun H2 B2 S2 s2 r2 => o H2 B2 S2 (s'.trans s2) v r2⟩
    | exn x e1 => rw [hr] at o; exact o
    | bad => rw [hr] at o; exact o
  refine thn (h.run pins s σ H _ I key) fun u s1 ⟨v, H1, I1, r1, sl, e1, B1, S1, hv, q1⟩ => ?_
  cases sl with
  | sh d => exact ⟨v, H1, I1, r1, q1 H1 B1 S1 (.refl _) hv⟩
  | ow d =>
    obtain ⟨p, rfl, fr⟩ := hv
    obtain ⟨u', o', hu, f', I2⟩ := Inv.frz (B := B1) I1 fr.own
    obtain ⟨S2, sb, rp⟩ := S1.share fr.nB fr.n0 fr.own hu f' fr.ns
    exact ⟨.ref p, _, I2, r1, q1 _ _ S2 sb rp⟩
  | mu d => exact hv.elim

/-! ### names -/
theorem app_get {σ y : St} {i : Nat} (h : i < σ.length) : (σ ++ y)[i]? = σ[i]? := List.getElem?_append_left h
def eVar (i : Nat) : M Sl := fun e => match e[i]? with
  | some (some (.sh d)) => .ok (.sh d) e
  | some (some (.ow d)) => .ok (.sh d) (e.set i (some (.sh d)))
  | _ => .bad
theorem de_var {i : Nat} {ex : Expr} (h : PE X ex (tVar i)) (hi : i < F.n) : PE X ex (tE F W (eVar i)) := by
  refine ⟨fun pins s σ H Q I q => ?_⟩
  obtain ⟨B, e, y, hl, S, o⟩ := q
  have ag : (σ ++ y)[i]? = σ[i]? := app_get (by rw [hl]; exact hi)
  unfold eVar at o
  split at o
  · rename_i d hd
    obtain ⟨v, h1, h2⟩ := S.sl _ _ hd
    exact h.run pins s σ H Q I ⟨v, by rw [← ag]; exact h1, o H B S (.refl _) v h2⟩
  · rename_i d hd
    obtain ⟨p, h1, h2, h3, h4⟩ := S.sl _ _ hd
    obtain ⟨u', o', hu, f', I2⟩ := Inv.frz (B := B) I h4
    obtain ⟨S2, sb, rp⟩ := S.freeze hd h1 hu f'
    exact h.run pins s σ _ Q I2 ⟨_, by rw [← ag]; exact h1, o _ _ S2 sb _ rp⟩
  · exact o.elim
/-- a constant -/
def eC (d : D) : M Sl := fun e => .ok (.sh d) e
theorem de_c {v : V} {d : D} {ex : Expr} (h : PE X ex (tC v)) (r : ∀ B, Rep F.K B v d) : PE X ex (tE F W (eC d)) :=
  h.imp fun σ H Q ⟨B, e, y, hl, S, o⟩ => o H B S (.refl _) v (r B)
end

/-! ### operands: an expression, or a slot that is looked at when all operands stand -/
inductive Opd where
  | val (f : M Sl) | bor (i : Nat)
def tO (F : Fr) (W : WX) : Opd → TE
  | .val f => tV F W f
  | .bor i => tVar i
def opsM : List Opd → M (List D)
  | [] => fun e => .ok [] e
  | .val f :: os => fun e => bd (f e) fun s e1 => bd (opsM os e1) fun ds e2 => .ok (s.d :: ds) e2
  | .bor i :: os => fun e => match e[i]? with
    | some (some _) => bd (opsM os e) fun ds e2 => (match e2[i]? with
      | some (some s) => .ok (s.d :: ds) e2
      | _ => .bad)
    | _ => .bad
inductive OpsR (F : Fr) (σ : St) (B : Hp) (e : Ev) : List Opd → List V → List D → Prop
  | nil : OpsR F σ B e [] [] []
  | val {f : M Sl} {os : List Opd} {v : V} {vs : List V} {d : D} {ds : List D} : Rep F.K B v d → OpsR F σ B e os vs ds → OpsR F σ B e (.val f :: os) (v :: vs) (d :: ds)
  | bor {i : Nat} {os : List Opd} {v : V} {vs : List V} {s : Sl} {ds : List D} : σ[i]? = some (some v) → e[i]? = some (some s) → OpsR F σ B e os vs ds → OpsR F σ B e (.bor i :: os) (v :: vs) (s.d :: ds)
def chain (F : Fr) (W : WX) : List Opd → TA
  | [] => tNil
  | o :: os => tCons (tO F W o) (chain F W os)
section
variable {X : Cx} {F : Fr} {W : WX}
/-- slots that are looked at are the frame's -/
def bors (n : Nat) : List Opd → Bool
  | [] => true
  | .val _ :: os => bors n os
  | .bor i :: os => decide (i < n) && bors n os
theorem OpsR.repNs {σ : St} {H B : Hp} {e : Ev} (S : SR F σ H B e) : ∀ {os : List Opd} {vs : List V} {ds : List D}, OpsR F σ B e os vs ds → RepNs F.K H B vs ds
  | _, _, _, .nil => .nil
  | _, _, _, .val r h => .cons (.inl r) (OpsR.repNs S h)
  | _, _, _, .bor h1 h2 h => by
    obtain ⟨v, z1, z2⟩ := (S.sl _ _ h2).repN
    rw [h1] at z1; cases z1
    exact .cons z2 (OpsR.repNs S h)
theorem ops_run : ∀ (os : List Opd) {σ y : St} {H B : Hp} {e : Ev} {k : List D → Ev → Hp → Hp → Prop} {Q : List V → Hp → Prop}, bors F.n os = true → σ.length = F.n → SR F (σ ++ y) H B e → OutR F W σ (σ ++ y) B (opsM os e) k →
    (∀ ds e' H' B' vs, SR F (σ ++ y) H' B' e' → Sub B B' → k ds e' H' B' → OpsR F (σ ++ y) B' e' os vs ds → Q vs H') → chain F W os σ H Q
  | [], σ, y, H, B, e, k, Q, hb, hl, S, o, f => f [] e H B [] S (.refl _) (o H B S (.refl _)) .nil
  | .val g :: os, σ, y, H, B, e, k, Q, hb, hl, S, o, f => by
    refine ⟨B, e, y, hl, S, (OutR.bd o).mono fun s e1 H1 B1 S1 s1 o1 v hv => ?_⟩
    refine ops_run os hb hl S1 (OutR.bd o1) fun ds e2 H2 B2 vs S2 s2 o2 r2 => ?_
    exact f (s.d :: ds) e2 H2 B2 (v :: vs) S2 (s1.trans s2) (o2 H2 B2 S2 (.refl _)) (.val (hv.mono s2) r2)
  | .bor i :: os, σ, y, H, B, e, k, Q, hb, hl, S, o, f => by
    have hb' : decide (i < F.n) = true ∧ bors F.n os = true := by simpa [bors] using hb
    have ag : (σ ++ y)[i]? = σ[i]? := app_get (by rw [hl]; exact of_decide_eq_true hb'.1)
    unfold opsM at o
    split at o
    · rename_i sl hs
      obtain ⟨v, z1, _⟩ := (S.sl _ _ hs).repN
      refine ⟨v, by rw [← ag]; exact z1, ?_⟩
      refine ops_run os hb'.2 hl S (OutR.bd o) fun ds e2 H2 B2 vs S2 s2 o2 r2 => ?_
      split at o2
      · rename_i s' hs'
        exact f (s'.d :: ds) e2 H2 B2 (v :: vs) S2 s2 (o2 H2 B2 S2 (.refl _)) (.bor z1 hs' r2)
      · exact o2.elim
    · exact o.elim

/-! ### operations by data -/
/-- what comes of an operation whose result is s -/
def ResG (K : PySem.W.Frag) (B H : Hp) (Q : VK) : Sl → Prop
  | .sh d => ∀ v H' B', Al H B H' B' → Rep K B' v d → Q v H'
  | .ow d => ∀ p H' B', Al H B H' B' → H p = none → B' p = none → Own K H' B' p d → Q (.ref p) H'
  | .mu _ => False
/-- what an operation on data g asks -/
def rG (K : PySem.W.Frag) (g : List D → Option Sl) (xs : List V) (H : Hp) (Q : VK) : Prop :=
  ∃ B ds s, Sub B H ∧ RepNs K H B xs ds ∧ g ds = some s ∧ ResG K B H Q s
def rG1 (K : PySem.W.Frag) (g : D → Option Sl) (x : V) (H : Hp) (Q : VK) : Prop :=
  ∃ B a s, Sub B H ∧ RepN K H B x a ∧ g a = some s ∧ ResG K B H Q s
def rG2 (K : PySem.W.Frag) (g : D → D → Option Sl) (x y : V) (H : Hp) (Q : VK) : Prop :=
  ∃ B a b s, Sub B H ∧ RepN K H B x a ∧ RepN K H B y b ∧ g a b = some s ∧ ResG K B H Q s
def gg1 (g : D → Option Sl) : List D → Option Sl
  | [a] => g a
  | _ => none
def gg2 (g : D → D → Option Sl) : List D → Option Sl
  | [a, b] => g a b
  | _ => none
def gg3 (g : D → D → D → Option Sl) : List D → Option Sl
  | [a, b, c] => g a b c
  | _ => none
theorem rG.one {K : PySem.W.Frag} {g : D → Option Sl} {xs : List V} {H : Hp} {Q : VK} (h : rG K (gg1 g) xs H Q) : ∃ x, xs = [x] ∧ rG1 K g x H Q := by
  obtain ⟨B, ds, s, sb, rn, hg, k⟩ := h
  match ds, rn, hg with
  | [a], .cons r1 .nil, hg => exact ⟨_, rfl, B, a, s, sb, r1, hg, k⟩
theorem rG.two {K : PySem.W.Frag} {g : D → D → Option Sl} {xs : List V} {H : Hp} {Q : VK} (h : rG K (gg2 g) xs H Q) : ∃ x y, xs = [x, y] ∧ rG2 K g x y H Q := by
  obtain ⟨B, ds, s, sb, rn, hg, k⟩ := h
  match ds, rn, hg with
  | [a, b], .cons r1 (.cons r2 .nil), hg => exact ⟨_, _, rfl, B, a, b, s, sb, r1, r2, hg, k⟩
def okG (r : Option Sl) (e : Ev) : R Sl := match r with
  | some (.sh d) => .ok (.sh d) e
  | some (.ow d) => .ok (.ow d) e
  | _ => .bad
def eN (g : List D → Option Sl) (os : List Opd) : M Sl := fun e => bd (opsM os e) fun ds e' => okG (g ds) e'
theorem okG_run {σ z : St} {H B : Hp} {e : Ev} {r : Option Sl} {Q : VK} (S : SR F z H B e) (o : OutR F W σ z B (okG r e) fun s e' H' B' => ∀ v, SlV F z e' H' B' s v → Q v H') : ∃ s, r = some s ∧ ResG F.K B H Q s := by
  cases r with
  | none => exact o.elim
  | some s =>
    refine ⟨s, rfl, ?_⟩
    cases s with
    | sh d => exact fun v H' B' al r => o H' B' (S.al al) al.subB v r
    | ow d =>
      intro p H' B' al np nB ow
      refine o H' B' (S.al al) al.subB (.ref p) ⟨p, rfl, nB, S.new0 np, ow, fun j s z o' w => ?_⟩
      obtain ⟨p', z1, _, z3⟩ := (S.sl j s z).own o'
      rw [w] at z1; cases z1
      exact z3.ne np
    | mu d => exact o.elim
theorem eN_run {g : List D → Option Sl} {os : List Opd} {σ : St} {H : Hp} {Q : VK} (hb : bors F.n os = true) (h : tE F W (eN g os) σ H Q) : chain F W os σ H (fun xs H2 => rG F.K g xs H2 Q) := by
  obtain ⟨B, e, y, hl, S, o⟩ := h
  refine ops_run os hb hl S (OutR.bd o) fun ds e1 H1 B1 vs S1 s1 o1 r1 => ?_
  obtain ⟨s, hs, k⟩ := okG_run S1 o1
  exact ⟨B1, ds, s, S1.sub, r1.repNs S1, hs, k⟩
theorem tO_mono (o : Opd) (σ : St) (H : Hp) (Q Q' : VK) (m : ∀ v H, Q v H → Q' v H) (q : tO F W o σ H Q) : tO F W o σ H Q' := by
  cases o with
  | val f =>
    obtain ⟨B, e, y, hl, S, o⟩ := q
    exact ⟨B, e, y, hl, S, o.mono fun s e1 H1 B1 S1 s1 k v hv => m _ _ (k v hv)⟩
  | bor i =>
    obtain ⟨v, z, q⟩ := q
    exact ⟨v, z, m _ _ q⟩
theorem chain_mono : ∀ (os : List Opd) (σ : St) (H : Hp) (Q Q' : List V → Hp → Prop), (∀ xs H, Q xs H → Q' xs H) → chain F W os σ H Q → chain F W os σ H Q'
  | [], σ, H, Q, Q', m, q => m _ _ q
  | o :: os, σ, H, Q, Q', m, q => tO_mono o σ H _ _ (fun v H1 q1 => chain_mono os σ H1 _ _ (fun xs H => m _ _) q1) q
/-- by its operands -/
theorem de_n {g : List D → Option Sl} {os : List Opd} {ex : Expr} {r : List V → Hp → VK → Prop} (h : PE X ex (fun σ H Q => chain F W os σ H fun xs H2 => r xs H2 Q)) (hr : ∀ xs H Q, rG F.K g xs H Q → r xs H Q) (hb : bors F.n os = true) : PE X ex (tE F W (eN g os)) :=
  h.imp fun σ H Q q => chain_mono os σ H _ _ (fun xs H1 => hr xs H1 Q) (eN_run hb q)
theorem de_1 {g : D → Option Sl} {o1 : Opd} {ex : Expr} {r : V → Hp → VK → Prop} (h : PE X ex (tUn r (tO F W o1))) (hr : ∀ x H Q, rG1 F.K g x H Q → r x H Q) (hb : bors F.n [o1] = true) : PE X ex (tE F W (eN (gg1 g) [o1])) := by
  refine h.imp fun σ H Q q => ?_
  refine tO_mono o1 σ H _ _ (fun x H1 q1 => ?_) (eN_run hb q)
  obtain ⟨x', e, q2⟩ := rG.one q1
  cases e
  exact hr _ _ _ q2
theorem de_2 {g : D → D → Option Sl} {o1 o2 : Opd} {ex : Expr} {r : R2} (h : PE X ex (tOp r (tO F W o1) (tO F W o2))) (hr : ∀ x y H Q, rG2 F.K g x y H Q → r x y H Q) (hb : bors F.n [o1, o2] = true) : PE X ex (tE F W (eN (gg2 g) [o1, o2])) := by
  refine h.imp fun σ H Q q => ?_
  refine tO_mono o1 σ H _ _ (fun x H1 q1 => tO_mono o2 σ H1 _ _ (fun y H2 q2 => ?_) q1) (eN_run hb q)
  obtain ⟨x', y', e, q3⟩ := rG.two q2
  cases e
  exact hr _ _ _ _ q3
/-- a built-in's call -/
theorem de_b {g : List D → Option Sl} {os : List Opd} {ex : Expr} {r : List V → Hp → VK → Prop} (h : PE X ex (tCB r (chain F W os))) (hr : ∀ xs H Q, rG F.K g xs H Q → r xs H Q) (hb : bors F.n os = true) : PE X ex (tE F W (eN g os)) := de_n h hr hb
/-- operations by values whose reading is told of data -/
theorem ResG.sh {K : PySem.W.Frag} {B H : Hp} {Q : VK} {d : D} {v : V} (h : ResG K B H Q (.sh d)) (s : Sub B H) (r : Rep K B v d) : Q v H := h v H B (.refl s) r
theorem ResG.int {K : PySem.W.Frag} {B H : Hp} {Q : VK} {i : Int} (h : ResG K B H Q (.sh (.int i))) (s : Sub B H) : Q (.int i) H := h _ H B (.refl s) (.int i)
theorem ResG.bl {K : PySem.W.Frag} {B H : Hp} {Q : VK} {i : Bool} (h : ResG K B H Q (.sh (.bl i))) (s : Sub B H) : Q (.bl i) H := h _ H B (.refl s) (.bl i)
theorem ResG.str {K : PySem.W.Frag} {B H : Hp} {Q : VK} {i : Str} (h : ResG K B H Q (.sh (.str i))) (s : Sub B H) : Q (.str i) H := h _ H B (.refl s) (.str i)
theorem ResG.non {K : PySem.W.Frag} {B H : Hp} {Q : VK} (h : ResG K B H Q (.sh .non)) (s : Sub B H) : Q .non H := h _ H B (.refl s) .non
theorem ResG.tup {K : PySem.W.Frag} {B H : Hp} {Q : VK} {ds : List D} {xs : List V} (h : ResG K B H Q (.sh (.tup ds))) (s : Sub B H) (r : Reps K B xs ds) : ∀ p, H p = none → Q (.ref p) (upd H p (.tup xs)) := fun p np =>
  h (.ref p) _ (upd B p (.tup xs)) (.new s np) (.tup upd_same (r.mono (.upd (s.none np))))
theorem ResG.own {K : PySem.W.Frag} {B H : Hp} {Q : VK} {d : D} (h : ResG K B H Q (.ow d)) (s : Sub B H) (p : Addr) (H' : Hp) (sm : Sub H H') (np : H p = none) (ow : Own K H' B p d) : Q (.ref p) H' :=
  h p H' B ⟨sm, .refl _, s.trans sm, fun _ _ => rfl⟩ np (s.none np) ow
theorem ResG.lst {K : PySem.W.Frag} {B H : Hp} {Q : VK} {ds : List D} {xs : List V} (h : ResG K B H Q (.ow (.lst ds))) (s : Sub B H) (r : Reps K B xs ds) : ∀ p, H p = none → Q (.ref p) (upd H p (.lst xs)) := fun p np =>
  h.own s p _ (.upd np) np ⟨xs, upd_same, r⟩
end
end DL

end
section
set_option maxRecDepth 100000
set_option maxHeartbeats 2000000
/-! DL3: tests, statements, targets, loops. -/
namespace DL
open PySem PySem.Spec PyProof.Rows L2

/-! ### tests -/
def truD : D → Option Bool
  | .non => some false
  | .bl b => some b
  | .int i => some (i != 0)
  | .str x => if x.length ≤ sizeLine then some ((x.length : Int) != 0) else none
  | .tup ds => some (!ds.isEmpty)
  | .lst ds => some (!ds.isEmpty)
  | .rol ds => some (!ds.isEmpty)
  | _ => none
/-- by a value that is a truth -/
def tB1 (f : M Sl) : M Bool := fun e => bd (f e) fun s e' => match s with
  | .sh (.bl b) => .ok b e'
  | _ => .bad
/-- by any value's truth -/
def tVal (o : Opd) : M Bool := fun e => bd (opsM [o] e) fun ds e' => match ds with
  | [d] => (match truD d with
    | some b => .ok b e'
    | none => .bad)
  | _ => .bad
def tNotM (f : M Bool) : M Bool := fun e => bd (f e) fun b e' => .ok (!b) e'
def tAndM (f g : M Bool) : M Bool := fun e => bd (f e) fun b e' => if b then g e' else .ok false e'
def tOrM (f g : M Bool) : M Bool := fun e => bd (f e) fun b e' => if b then .ok true e' else g e'
/-- a test as a value -/
def eB (f : M Bool) : M Sl := fun e => bd (f e) fun b e' => .ok (.sh (.bl b)) e'
def eIf (c : M Bool) (f g : M Sl) : M Sl := fun e => bd (c e) fun b e' => if b then f e' else g e'
/-- x or y, x and y by truth -/
def eOr (o : Opd) (g : M Sl) : M Sl := fun e => bd (opsM [o] e) fun ds e' => match ds with
  | [d] => (match truD d with
    | some true => .ok (.sh d) e'
    | some false => g e'
    | none => .bad)
  | _ => .bad
section
variable {X : Cx} {F : Fr} {W : WX} {ex : Expr}
theorem reps_empty {K : PySem.W.Frag} {B : Hp} {xs : List V} {ds : List D} (r : Reps K B xs ds) : (!ds.isEmpty) = !xs.isEmpty := by cases r <;> rfl
theorem truD_ok {K : PySem.W.Frag} {H B : Hp} {x : V} {d : D} {k : Bool} (s : Sub B H) (r : RepN K H B x d) (h : truD d = some k) : TruV K x H k := by
  cases d with
  | non => cases r.non; cases h; rfl
  | bl b => cases r.bl; cases h; rfl
  | int i => cases r.int; cases h; rfl
  | str z =>
    cases r.str
    have h : (if z.length ≤ sizeLine then some ((z.length : Int) != 0) else none) = some k := h
    by_cases hz : z.length ≤ sizeLine
    · rw [if_pos hz] at h; cases h; exact ⟨hz, rfl⟩
    · rw [if_neg hz] at h; cases h
  | tup ds => obtain ⟨a, xs, rfl, h1, _, h2⟩ := r.tup s; cases h; exact .inr (.inl ⟨xs, h1, reps_empty h2⟩)
  | lst ds => obtain ⟨a, xs, rfl, h1, h2⟩ := r.lst s; cases h; exact .inl ⟨xs, .of h1, reps_empty h2⟩
  | rol ds => obtain ⟨a, xs, rfl, h1, _, h2⟩ := r.rol s; cases h; exact .inl ⟨xs, h1, reps_empty h2⟩
  | dk _ _ => cases h
  | dt _ _ => cases h
theorem dt_b1 {t : TE} {f : M Sl} (h : PT X ex (tB t)) (i : ∀ σ H Q, tE F W f σ H Q → t σ H Q) : PT X ex (tT F W (tB1 f)) := by
  refine h.imp fun σ H Q ⟨B, e, y, hl, S, o⟩ => i _ _ _ ⟨B, e, y, hl, S, (OutR.bd o).mono fun s e' H' B' S' s' k v hv => ?_⟩
  split at k
  · cases hv
    exact ⟨_, rfl, k H' B' S' (.refl _)⟩
  · exact k.elim
theorem dt_val {o : Opd} (hK : F.K = X.K) (hb : bors F.n [o] = true) (h : PE X ex (tO F W o)) (he : ∀ whole, isTrue ex X.env whole = (do let v ← whole; standAt ex.pos; holding [v] (truthy v))) : PT X ex (tT F W (tVal o)) := by
  refine (pt_truth h he).imp fun σ H Q ⟨B, e, y, hl, S, q⟩ => ?_
  refine ops_run (W := W) [o] (Q := fun vs H' => ∃ x, vs = [x] ∧ ∃ k, TruV X.K x H' k ∧ Q k H') hb hl S (OutR.bd q) (fun ds e' H' B' vs S' s' k r => ?_) |> fun z => tO_mono o σ H _ _ (fun v H1 ⟨x, e1, q1⟩ => by cases e1; exact q1) z
  match ds, vs, r.repNs S', k with
  | [d], [v], .cons r1 .nil, k =>
    refine ⟨v, rfl, ?_⟩
    cases ht : truD d with
    | none =>
      have k' : OutR F W σ (σ ++ y) B' (match truD d with | some b => R.ok b e' | none => R.bad) (fun b e' H' B' => Q b H') := k
      rw [ht] at k'
      exact k'.elim
    | some b =>
      have k' : OutR F W σ (σ ++ y) B' (match truD d with | some b => R.ok b e' | none => R.bad) (fun b e' H' B' => Q b H') := k
      rw [ht] at k'
      exact ⟨b, by rw [← hK]; exact truD_ok S'.sub r1 ht, k' H' B' S' (.refl _)⟩
  | [], [], .nil, k => exact k.elim
  | _ :: _ :: _, _, .cons _ (.cons _ _), k => exact k.elim
theorem dt_not {f : M Bool} {a : Expr} {pos : Pos} (h : PT X a (tT F W f)) : PT X (.UnaryOp .Not a pos) (tT F W (tNotM f)) :=
  (pt_not h).imp fun σ H Q ⟨B, e, y, hl, S, o⟩ => ⟨B, e, y, hl, S, (OutR.bd o).mono fun b e' H' B' S' s' k => k H' B' S' (.refl _)⟩
theorem dw_and {f g : M Bool} {a b : Expr} {rest : List Expr} {pos : Pos} (h : PT X a (tT F W f)) (h2 : PW X (.BoolOp .And (b :: rest) pos) (tT F W g)) : PW X (.BoolOp .And (a :: b :: rest) pos) (tT F W (tAndM f g)) :=
  (pw_and h h2).imp fun σ H Q ⟨B, e, y, hl, S, o⟩ => ⟨B, e, y, hl, S, (OutR.bd o).mono fun b e' H' B' S' s' k => by
    cases b with
    | true => exact ⟨B', e', y, hl, S', k⟩
    | false => exact k H' B' S' (.refl _)⟩
theorem dw_or {f g : M Bool} {a b : Expr} {rest : List Expr} {pos : Pos} (h : PT X a (tT F W f)) (h2 : PW X (.BoolOp .Or (b :: rest) pos) (tT F W g)) : PW X (.BoolOp .Or (a :: b :: rest) pos) (tT F W (tOrM f g)) :=
  (pw_or h h2).imp fun σ H Q ⟨B, e, y, hl, S, o⟩ => ⟨B, e, y, hl, S, (OutR.bd o).mono fun b e' H' B' S' s' k => by
    cases b with
    | false => exact ⟨B', e', y, hl, S', k⟩
    | true => exact k H' B' S' (.refl _)⟩
theorem de_if {c a b : Expr} {pos : Pos} {fc : M Bool} {f g : M Sl} (hc : PT X c (tT F W fc)) (h1 : PE X a (tE F W f)) (h2 : PE X b (tE F W g)) : PE X (.IfExp c a b pos) (tE F W (eIf fc f g)) :=
  (pe_ifExp hc h1 h2).imp fun σ H Q ⟨B, e, y, hl, S, o⟩ => ⟨B, e, y, hl, S, (OutR.bd o).mono fun b e' H' B' S' s' k => by
    cases b with
    | true => exact ⟨B', e', y, hl, S', k⟩
    | false => exact ⟨B', e', y, hl, S', k⟩⟩
/-- and, or, not, as values, of truths -/
theorem de_and {a b : Expr} {rest : List Expr} {pos : Pos} {f g : M Sl} (h1 : PE X a (tE F W f)) (h2 : PE X (.BoolOp .And (b :: rest) pos) (tE F W g)) : PE X (.BoolOp .And (a :: b :: rest) pos) (tE F W (eIf (tB1 f) g (eC (.bl false)))) :=
  (pe_and h1 h2).imp fun σ H Q ⟨B, e, y, hl, S, o⟩ => ⟨B, e, y, hl, S, (OutR.bd (OutR.bd o)).mono fun s e' H' B' S' s' k v hv => by
    match s, k with
    | .sh (.bl true), k => cases hv; exact ⟨true, rfl, B', e', y, hl, S', k H' B' S' (.refl _)⟩
    | .sh (.bl false), k => cases hv; exact ⟨false, rfl, k H' B' S' (.refl _) H' B' S' (.refl _) _ (.bl false)⟩⟩
theorem de_or {a b : Expr} {rest : List Expr} {pos : Pos} {f g : M Sl} (h1 : PE X a (tE F W f)) (h2 : PE X (.BoolOp .Or (b :: rest) pos) (tE F W g)) : PE X (.BoolOp .Or (a :: b :: rest) pos) (tE F W (eIf (tB1 f) (eC (.bl true)) g)) :=
  (pe_or h1 h2).imp fun σ H Q ⟨B, e, y, hl, S, o⟩ => ⟨B, e, y, hl, S, (OutR.bd (OutR.bd o)).mono fun s e' H' B' S' s' k v hv => by
    match s, k with
    | .sh (.bl true), k => cases hv; exact ⟨true, rfl, k H' B' S' (.refl _) H' B' S' (.refl _) _ (.bl true)⟩
    | .sh (.bl false), k => cases hv; exact ⟨false, rfl, B', e', y, hl, S', k H' B' S' (.refl _)⟩⟩
theorem de_not {a : Expr} {pos : Pos} {f : M Sl} (h1 : PE X a (tE F W f)) : PE X (.UnaryOp .Not a pos) (tE F W (eB (tNotM (tB1 f)))) :=
  (pe_not h1).imp fun σ H Q ⟨B, e, y, hl, S, o⟩ => ⟨B, e, y, hl, S, (OutR.bd (OutR.bd (OutR.bd o))).mono fun s e' H' B' S' s' k v hv => by
    match s, k with
    | .sh (.bl b), k => cases hv; exact ⟨b, rfl, k H' B' S' (.refl _) H' B' S' (.refl _) H' B' S' (.refl _) _ (.bl _)⟩⟩
end

/-! ### statements -/
inductive Fl where
  | nx | rt (s : Sl) | bk | ct
def OutS (F : Fr) (W : WX) (B : Hp) (r : R Fl) (D : Ends) : Prop := match r with
  | .ok .nx e' => ∀ σ' H' B', σ'.length = F.n → SR F σ' H' B' e' → Sub B B' → D.nx σ' H'
  | .ok .bk e' => ∀ σ' H' B', σ'.length = F.n → SR F σ' H' B' e' → Sub B B' → D.bk σ' H'
  | .ok .ct e' => ∀ σ' H' B', σ'.length = F.n → SR F σ' H' B' e' → Sub B B' → D.ct σ' H'
  | .ok (.rt s) e' => ∀ σ' H' B' v, σ'.length = F.n → SR F σ' H' B' e' → Sub B B' → SlV F σ' e' H' B' s v → D.rt v H'
  | .exn x e' => ∀ cls dd σ' y H' B', σ'.length = F.n → SR F (σ' ++ y) H' B' e' → Sub B B' → ExR F H' B' x cls dd → W cls dd σ' H'
  | .bad => False
def tS (F : Fr) (W : WX) (f : M Fl) : TS := fun D σ H => ∃ B e, σ.length = F.n ∧ SR F σ H B e ∧ OutS F W B (f e) D
def sSeq (f g : M Fl) : M Fl := fun e => match f e with
  | .ok .nx e' => g e'
  | r => r
def sNx : M Fl := fun e => .ok .nx e
def sBk : M Fl := fun e => .ok .bk e
def sCt : M Fl := fun e => .ok .ct e
def sExpr (f : M Sl) : M Fl := fun e => bd (f e) fun _ e' => .ok .nx e'
def Sl.isMu : Sl → Bool
  | .mu _ => true
  | _ => false
def muAt (i : Nat) (e : Ev) : Bool := match e[i]? with
  | some (some s) => s.isMu
  | some none => false
  | none => true
def setE (i : Nat) (s : Sl) (e : Ev) : R Fl := if muAt i e || s.isMu then .bad else .ok .nx (e.set i (some s))
def sAsg (i : Nat) (f : M Sl) : M Fl := fun e => bd (f e) fun s e' => setE i s e'
def sIf (c : M Bool) (f g : M Fl) : M Fl := fun e => bd (c e) fun b e' => if b then f e' else g e'
def sRet (f : M Sl) : M Fl := fun e => bd (f e) fun s e' => .ok (.rt s) e'
/-- return x: a list that the frame owns goes to the caller -/
def sRetV (i : Nat) : M Fl := fun e => match e[i]? with
  | some (some (.sh d)) => .ok (.rt (.sh d)) e
  | some (some (.ow d)) => .ok (.rt (.ow d)) (e.set i none)
  | _ => .bad
section
variable {X : Cx} {F : Fr} {W : WX}
theorem OutS.sub {B B1 : Hp} {r : R Fl} {D : Ends} (s : Sub B B1) (h : OutS F W B r D) : OutS F W B1 r D := by
  match r, h with
  | .ok .nx e', h => exact fun σ' H' B' n S s' => h σ' H' B' n S (s.trans s')
  | .ok .bk e', h => exact fun σ' H' B' n S s' => h σ' H' B' n S (s.trans s')
  | .ok .ct e', h => exact fun σ' H' B' n S s' => h σ' H' B' n S (s.trans s')
  | .ok (.rt _) e', h => exact fun σ' H' B' v n S s' => h σ' H' B' v n S (s.trans s')
  | .exn x e', h => exact fun c d σ' y H' B' n S s' => h c d σ' y H' B' n S (s.trans s')
theorem OutS.bd {σ : St} {B : Hp} {α : Type} {r : R α} {g : α → Ev → R Fl} {D : Ends} (n : σ.length = F.n) (h : OutS F W B (bd r g) D) : OutR F W σ (σ ++ []) B r (fun a e' H' B' => OutS F W B' (g a e') D) := by
  rw [List.append_nil]
  match r, h with
  | .ok a e', h => exact fun H' B' S s => OutS.sub s h
  | .exn x e', h => exact fun c d y H' B' S s => h c d σ y H' B' n S s
theorem SR.nil {σ : St} {H B : Hp} {e : Ev} (S : SR F σ H B e) : SR F (σ ++ []) H B e := by rw [List.append_nil]; exact S
theorem SR.unnil {σ : St} {H B : Hp} {e : Ev} (S : SR F (σ ++ []) H B e) : SR F σ H B e := by rw [List.append_nil] at S; exact S
/-- from an expression's end to a statement's -/
theorem tS.run {σ : St} {H B : Hp} {e : Ev} {f : M Sl} {g : Sl → Ev → R Fl} {D : Ends} {Q : VK} (n : σ.length = F.n) (S : SR F σ H B e) (o : OutS F W B (DL.bd (f e) g) D)
    (hq : ∀ s e' H' B' v, SR F σ H' B' e' → Sub B B' → OutS F W B' (g s e') D → SlV F σ e' H' B' s v → Q v H') : tE F W f σ H Q :=
  ⟨B, e, [], n, S.nil, (OutS.bd n o).mono fun s e' H' B' S' s' k v hv => hq s e' H' B' v S'.unnil s' k (by rw [List.append_nil] at hv; exact hv)⟩
theorem muAt_ok {i : Nat} {e : Ev} (h : muAt i e = false) : i < e.length ∧ ∀ d, e[i]? ≠ some (some (.mu d)) := by
  unfold muAt at h
  cases he : e[i]? with
  | none => rw [he] at h; cases h
  | some s' =>
    refine ⟨(List.getElem?_eq_some_iff.mp he).1, fun d z => ?_⟩
    cases z
    rw [he] at h
    cases h
theorem setE_sr {i : Nat} {s : Sl} {σ : St} {H B : Hp} {e : Ev} {v : V} (S : SR F σ H B e) (hv : SlV F σ e H B s v) (nm : muAt i e = false) : SR F (σ.set i (some v)) H B (e.set i (some s)) := by
  obtain ⟨il, nm⟩ := muAt_ok nm
  have iσ : (σ.set i (some v))[i]? = some (some v) := List.getElem?_set_self (by rw [S.len]; exact il)
  refine S.set ?_ il nm (fun d z => by subst z; exact hv.elim) ?_
  · cases s with
    | sh d => exact ⟨v, iσ, hv⟩
    | ow d => obtain ⟨p, rfl, fr⟩ := hv; exact ⟨p, iσ, fr.nB, fr.n0, fr.own⟩
    | mu d => exact hv.elim
  · intro o' j s2 hj z o2 p hp
    cases s with
    | sh d => cases o'
    | ow d => obtain ⟨p', rfl, fr⟩ := hv; cases hp; exact fr.ns j s2 z o2
    | mu d => exact hv.elim
theorem setE_ok {i : Nat} {s : Sl} {σ : St} {H B : Hp} {e : Ev} {D : Ends} {v : V} (n : σ.length = F.n) (S : SR F σ H B e) (hv : SlV F σ e H B s v) (o : OutS F W B (setE i s e) D) : D.nx (σ.set i (some v)) H := by
  unfold setE at o
  cases hm : muAt i e with
  | true => rw [hm] at o; exact o.elim
  | false =>
    rw [hm] at o
    have hs : s.isMu = false := by
      cases s with
      | mu d => exact hv.elim
      | _ => rfl
    rw [hs] at o
    exact o _ H B (by rw [List.length_set]; exact n) (setE_sr S hv hm) (.refl _)
theorem ds_expr {ex : Expr} {pos : Pos} {f : M Sl} (h : PE X ex (tE F W f)) (hs : swapsWith ex none pos.line X.env = pure false := by rfl) : PS X (.Expr ex pos) (tS F W (sExpr f)) :=
  (ps_expr h hs).imp fun D σ H ⟨B, e, n, S, o⟩ => tS.run n S o fun s e' H' B' v S' s' k _ => k σ H' B' n S' (.refl _)
theorem ds_set {i : Nat} {x : Str} {ex : Expr} {f : M Sl} {pos pos' : Pos} (h : PE X ex (tE F W f)) (hN : X.N.Nodup) (hi : X.N[i]? = some x) (hx : Loc X.env.scope x) (hs : swapsWith ex (some (.Name x pos')) pos.line X.env = pure false := by rfl)
    (hf : X.fn x = true ∨ X.env.scope.names.lookup x = some .local := by first | exact .inl rfl | exact .inr rfl | assumption) : PS X (.Assign [.Name x pos'] ex pos) (tS F W (sAsg i f)) :=
  (ps_set hN hi hx h hs hf).imp fun D σ H ⟨B, e, n, S, o⟩ => tS.run n S o fun s e' H' B' v S' s' k hv => setE_ok n S' hv k
theorem ds_ret {ex : Expr} {pos : Pos} {f : M Sl} (h : PE X ex (tE F W f)) : PS X (.Return (some ex) pos) (tS F W (sRet f)) :=
  (ps_ret h).imp fun D σ H ⟨B, e, n, S, o⟩ => tS.run n S o fun s e' H' B' v S' s' k hv => k σ H' B' v n S' (.refl _) hv
theorem ds_retV {i : Nat} {ex : Expr} {pos : Pos} (h : PE X ex (tVar i)) : PS X (.Return (some ex) pos) (tS F W (sRetV i)) :=
  (ps_ret h).imp fun D σ H ⟨B, e, n, S, o⟩ => by
    unfold sRetV at o
    split at o
    · rename_i d hd
      obtain ⟨v, h1, h2⟩ := S.sl _ _ hd
      exact ⟨v, h1, o σ H B v n S (.refl _) h2⟩
    · rename_i d hd
      obtain ⟨p, h1, h2, h3, h4⟩ := S.sl _ _ hd
      have il : i < e.length := (List.getElem?_eq_some_iff.mp hd).1
      refine ⟨.ref p, h1, o σ H B (.ref p) n (S.drop fun d' z => by rw [hd] at z; cases z) (.refl _) ⟨p, rfl, h2, h3, h4, fun j s z o' w => ?_⟩⟩
      by_cases hj : j = i
      · subst hj; rw [List.getElem?_set_self il] at z; cases z
      · rw [List.getElem?_set_ne (Ne.symm hj)] at z
        exact S.sep i j _ _ p (Ne.symm hj) hd z rfl o' h1 w
    · exact o.elim
theorem ds_retN {pos : Pos} : PS X (.Return none pos) (tS F W (sRet (eC .non))) :=
  ps_retN.imp fun D σ H ⟨B, e, n, S, o⟩ => o σ H B .non n S (.refl _) .non
theorem ds_pass {pos : Pos} : PS X (.Pass pos) (tS F W sNx) := ps_pass.imp fun D σ H ⟨B, e, n, S, o⟩ => o σ H B n S (.refl _)
theorem ds_break {pos : Pos} : PS X (.Break pos) (tS F W sBk) := ps_break.imp fun D σ H ⟨B, e, n, S, o⟩ => o σ H B n S (.refl _)
theorem ds_continue {pos : Pos} : PS X (.Continue pos) (tS F W sCt) := ps_continue.imp fun D σ H ⟨B, e, n, S, o⟩ => o σ H B n S (.refl _)
theorem ds_if {c : Expr} {a b : List Stmt} {pos : Pos} {fc : M Bool} {f g : M Fl} (hc : PT X c (tT F W fc)) (h1 : PSs X a (tS F W f)) (h2 : PSs X b (tS F W g)) : PS X (.If c a b pos) (tS F W (sIf fc f g)) :=
  (ps_if hc h1 h2).imp fun D σ H ⟨B, e, n, S, o⟩ => ⟨B, e, [], n, S.nil, (OutS.bd n o).mono fun b e' H' B' S' s' k => by
    cases b with
    | true => exact ⟨B', e', n, S'.unnil, k⟩
    | false => exact ⟨B', e', n, S'.unnil, k⟩⟩
theorem dss_nil : PSs X [] (tS F W sNx) := pss_nil.imp fun D σ H ⟨B, e, n, S, o⟩ => o σ H B n S (.refl _)
theorem dss_one {st : Stmt} {f : M Fl} (h : PS X st (tS F W f)) : PSs X [st] (tS F W f) := pss_one h
theorem sSeq_out {B : Hp} {f g : M Fl} {e : Ev} {D : Ends} (o : OutS F W B (sSeq f g e) D) : OutS F W B (f e) { D with nx := tS F W g D } := by
  unfold sSeq at o
  cases hr : f e with
  | ok fl e' =>
    rw [hr] at o
    cases fl with
    | nx => exact fun σ' H' B' n S s => ⟨B', e', n, S, OutS.sub s o⟩
    | _ => exact o
  | exn x e' => rw [hr] at o; exact o
  | bad => rw [hr] at o; exact o
theorem dss_cons {st : Stmt} {rest : List Stmt} {f g : M Fl} (h : PS X st (tS F W f)) (h2 : PSs X rest (tS F W g)) : PSs X (st :: rest) (tS F W (sSeq f g)) :=
  (pss_cons h h2).imp fun D σ H ⟨B, e, n, S, o⟩ => ⟨B, e, n, S, sSeq_out o⟩
end
end DL

end
section
set_option maxRecDepth 100000
set_option maxHeartbeats 2000000
/-! DL4: targets, for, while, comprehensions. -/
namespace DL
open PySem PySem.Spec PyProof.Rows L2

/-! ### targets -/
inductive Tg where
  | nm (i : Nat) | tp (ts : List Tg)
mutual
def Tg.ix : Tg → List Nat
  | .nm i => [i]
  | .tp ts => Tg.ixs ts
def Tg.ixs : List Tg → List Nat
  | [] => []
  | t :: ts => t.ix ++ Tg.ixs ts
end
mutual
def setTg : Tg → D → Ev → Option Ev
  | .nm i, d, e => if muAt i e then none else some (e.set i (some (.sh d)))
  | .tp ts, .tup ds, e => setTgs ts ds e
  | .tp _, _, _ => none
def setTgs : List Tg → List D → Ev → Option Ev
  | [], [], e => some e
  | t :: ts, d :: ds, e => match setTg t d e with
    | some e' => setTgs ts ds e'
    | none => none
  | _, _, _ => none
end
/-- what stands behind a target: the slots but those of the target are as they were -/
def Off (ix : List Nat) (σ σ' : St) : Prop := σ'.length = σ.length ∧ ∀ i, i ∉ ix → σ'[i]? = σ[i]?
theorem Off.refl (ix : List Nat) (σ : St) : Off ix σ σ := ⟨rfl, fun _ _ => rfl⟩
theorem Off.trans {ix jx : List Nat} {σ σ1 σ2 : St} (a : Off ix σ σ1) (b : Off jx σ1 σ2) : Off (ix ++ jx) σ σ2 :=
  ⟨b.1.trans a.1, fun i h => by
    rw [List.mem_append, not_or] at h
    rw [b.2 i h.2, a.2 i h.1]⟩
def gT (F : Fr) (t : Tg) : TG := fun v σ H Q => ∃ B e y d e', σ.length = F.n ∧ SR F (σ ++ y) H B e ∧ Rep F.K B v d ∧ setTg t d e = some e' ∧ ∀ σ', σ'.length = F.n → Off t.ix σ σ' → SR F (σ' ++ y) H B e' → Q σ' H
def gTs (F : Fr) (ts : List Tg) : TGs := fun vs σ H Q => ∃ B e y ds e', σ.length = F.n ∧ SR F (σ ++ y) H B e ∧ Reps F.K B vs ds ∧ setTgs ts ds e = some e' ∧ ∀ σ', σ'.length = F.n → Off (Tg.ixs ts) σ σ' → SR F (σ' ++ y) H B e' → Q σ' H
section
variable {X : Cx} {F : Fr} {W : WX}
theorem set_app {σ y : St} {i : Nat} {v : Option V} (h : i < σ.length) : (σ ++ y).set i v = σ.set i v ++ y := List.set_append_left i v h
theorem dg_name {i : Nat} {ex : Expr} (h : PG X ex (gName i)) (hi : i < F.n) : PG X ex (gT F (.nm i)) := by
  refine h.imp fun v σ H Q ⟨B, e, y, d, e', n, S, r, hs, k⟩ => ?_
  unfold setTg at hs
  cases hm : muAt i e with
  | true => rw [hm] at hs; cases hs
  | false =>
    rw [hm] at hs
    cases hs
    refine k _ (by rw [List.length_set]; exact n) ⟨List.length_set, fun j hj => List.getElem?_set_ne (fun z => hj (by rw [← z]; exact List.mem_singleton_self _))⟩ ?_
    rw [← set_app (by rw [n]; exact hi)]
    exact setE_sr S (show SlV F (σ ++ y) e H B (.sh d) v from r) hm
theorem dgs_nil : PGs X [] (gTs F []) := by
  refine ⟨fun pins s σ H vs us Q I r q => pgs_nil.run pins s σ H vs us Q I r ?_⟩
  obtain ⟨B, e, y, ds, e', n, S, rr, hs, k⟩ := q
  cases rr with
  | nil => cases hs; exact ⟨rfl, k σ n (.refl _ _) S⟩
  | cons a b => cases hs
theorem dgs_cons {t : Tg} {ts : List Tg} {ex : Expr} {es : List Expr} (h1 : PG X ex (gT F t)) (h2 : PGs X es (gTs F ts)) (hs : (assignEach (ex :: es) X.env).map (·.2) = assign ex X.env :: (assignEach es X.env).map (·.2)) : PGs X (ex :: es) (gTs F (t :: ts)) := by
  refine ⟨fun pins s σ H vs us Q I r q => (pgs_cons h1 h2 hs).run pins s σ H vs us Q I r ?_⟩
  obtain ⟨B, e, y, ds, e', n, S, rr, hs, k⟩ := q
  cases rr with
  | nil => cases hs
  | cons a b =>
    rename_i v vs d ds
    unfold setTgs at hs
    cases h : setTg t d e with
    | none => rw [h] at hs; cases hs
    | some e1 =>
      rw [h] at hs
      refine ⟨v, vs, rfl, B, e, y, d, e1, n, S, a, h, fun σ1 n1 o1 S1 => ?_⟩
      exact ⟨B, e1, y, ds, e', n1, S1, b, hs, fun σ2 n2 o2 S2 => k σ2 n2 (o1.trans o2) S2⟩
theorem dg_tup {ts : List Tg} {es : List Expr} {k : Nat} {pos : Pos} (hc : X.calm = true) (hK : F.K = X.K) (h : PGs X es (gTs F ts)) (hn : (assignEach es X.env).length = ts.length) (hst : (assignEach es X.env).findIdx? (·.1) = none) : PG X (.Tuple es k pos) (gT F (.tp ts)) := by
  refine (pg_tup (n := ts.length) hc h hn hst).imp fun v σ H Q ⟨B, e, y, d, e', n, S, r, hs, kk⟩ => ?_
  have len : ∀ (ts : List Tg) (ds : List D) (e e' : Ev), setTgs ts ds e = some e' → ds.length = ts.length := by
    intro ts
    induction ts with
    | nil => intro ds e e' h; cases ds with | nil => rfl | cons a b => cases h
    | cons t ts ih =>
      intro ds e e' h
      cases ds with
      | nil => cases h
      | cons d ds =>
        unfold setTgs at h
        split at h
        · rw [List.length_cons, List.length_cons, ih _ _ _ h]
        · cases h
  cases r with
  | tup a b =>
    exact ⟨_, _, rfl, by rw [← hK]; exact .inl (.inl (S.sub _ _ a)), by rw [b.length]; exact len ts _ e e' hs, B, e, y, _, e', n, S, b, hs, kk⟩
  | _ => cases hs

/-- x, y = e of a tuple -/
def sUnp (t : Tg) (f : M Sl) : M Fl := fun e => bd (f e) fun s e' => match setTg t s.d e' with
  | some e2 => .ok .nx e2
  | none => .bad
theorem ds_unp {t : Tg} {f : M Sl} {tg ex : Expr} {pos : Pos} (he : PE X ex (tV F W f)) (hg : PG X tg (gT F t)) (hs : swapsWithSole [tg] ex pos.line X.env = pure false) (hw : swappedStores [tg] ex X.env = pure none)
    (h1 : (assignEach [tg] X.env).map (·.2) = [assign tg X.env]) : PS X (.Assign [tg] ex pos) (tS F W (sUnp t f)) :=
  (ps_asg he hg hs hw h1).imp fun D σ H ⟨B, e, n, S, o⟩ => ⟨B, e, [], n, S.nil, (OutS.bd n o).mono fun s e' H' B' S' s' k v hv => by
    cases h : setTg t s.d e' with
    | none => rw [h] at k; exact k.elim
    | some e2 =>
      rw [h] at k
      exact ⟨B', e', [], s.d, e2, n, S', hv, h, fun σ2 n2 _ S2 => k σ2 H' B' n2 S2.unnil (.refl _)⟩⟩

/-! ### what is walked: the items of an iterator as data -/
structure ItR (K : PySem.W.Frag) (B : Hp) (J : It) (ds : List D) : Prop where
  go : ∀ i H, i < ds.length → Sub B H → J.go i H
  stop : ∀ H, Sub B H → J.stop ds.length H
  yld : ∀ i H x H' B2, i < ds.length → Sub B B2 → Sub B2 H → J.yld i H x H' → ∃ d B3, ds[i]? = some d ∧ Al H B2 H' B3 ∧ Rep K B3 x d
def tI (F : Fr) (W : WX) (f : M (List D)) : TI := fun σ H Q => ∃ B e y, σ.length = F.n ∧ SR F (σ ++ y) H B e ∧ OutR F W σ (σ ++ y) B (f e) fun ds e' H' B' => ∀ J, ItR F.K B' J ds → Q J H'

/-! ### for -/
/-- a turn's end, then the rest -/
def loopM (r : R Fl) (k : M Fl) : R Fl := match r with
  | .ok .nx e => k e
  | .ok .ct e => k e
  | .ok .bk e => .ok .nx e
  | .ok (.rt s) e => .ok (.rt s) e
  | .exn x e => .exn x e
  | .bad => .bad
theorem loop_out {B : Hp} {r : R Fl} {k : M Fl} {D : Ends} {N : St → Hp → Prop} (o : OutS F W B (loopM r k) D) (hN : ∀ σ H B' e, σ.length = F.n → SR F σ H B' e → Sub B B' → OutS F W B' (k e) D → N σ H) : OutS F W B r { D with nx := N, ct := N, bk := D.nx } := by
  cases r with
  | bad => exact o.elim
  | exn x e => exact o
  | ok fl e =>
    cases fl with
    | nx => exact fun σ H B' n S b => hN σ H B' e n S b (OutS.sub b o)
    | ct => exact fun σ H B' n S b => hN σ H B' e n S b (OutS.sub b o)
    | bk => exact o
    | rt s => exact o
def forM (t : Tg) (body : M Fl) : List D → M Fl
  | [] => fun e => .ok .nx e
  | d :: ds => fun e => match setTg t d e with
    | none => .bad
    | some e1 => loopM (body e1) (forM t body ds)
def sFor (src : M (List D)) (t : Tg) (body : M Fl) : M Fl := fun e => bd (src e) fun ds e' => forM t body ds e'
theorem for_run {g : TG} {tb : TS} {t : Tg} {body : M Fl} {J : It} {ds : List D} {σ : St} {H B : Hp} {e : Ev} {D : Ends} (hg : g = gT F t) (htb : tb = tS F W body) (n : σ.length = F.n) (S : SR F σ H B e) (ir : ItR F.K B J ds) (o : OutS F W B (forM t body ds e) D) :
    ∃ W' : Nat → Nat → St → Hp → Prop, (∃ m, W' 0 m σ H) ∧ ∀ i m σ H, W' i m σ H →
      (J.stop i H ∧ D.nx σ H) ∨ (J.go i H ∧ ∃ N : St → Hp → Prop, (∀ σ' H', N σ' H' → ∃ m', m' < m ∧ W' (i + 1) m' σ' H') ∧ ∀ x H', J.yld i H x H' → g x σ H' fun σ2 H2 => tb { D with nx := N, ct := N, bk := D.nx } σ2 H2) := by
  subst hg htb
  have w : Walk J ds.length (fun H => Sub B H) (fun i H x H' => ∀ B2, Sub B B2 → Sub B2 H → ∃ d B3, ds[i]? = some d ∧ Al H B2 H' B3 ∧ Rep F.K B3 x d) :=
    ⟨fun i H hi q => ir.go i H hi q, fun H q => ir.stop H q, fun i H x H' hi q y B2 b1 b2 => ir.yld i H x H' B2 hi b1 b2 y⟩
  refine for_it w (fun i σ H => ∃ B2 e2, σ.length = F.n ∧ SR F σ H B2 e2 ∧ Sub B B2 ∧ OutS F W B2 (forM t body (ds.drop i) e2) D) ⟨B, e, n, S, .refl _, by simpa using o⟩ (fun i σ H _ ⟨B2, e2, _, S2, b, _⟩ => b.trans S2.sub) ?_ ?_
  · rintro i x σ H H' hi ⟨B2, e2, n2, S2, b2, o2⟩ y
    obtain ⟨d, B3, hd, al, r⟩ := y B2 b2 S2.sub
    obtain ⟨hil, hdv⟩ := List.getElem?_eq_some_iff.mp hd
    rw [List.drop_eq_getElem_cons hil, hdv] at o2
    unfold forM at o2
    cases h : setTg t d e2 with
    | none => rw [h] at o2; exact o2.elim
    | some e3 =>
      rw [h] at o2
      exact ⟨B3, e2, [], d, e3, n2, (S2.al al).nil, r, h, fun σ3 n3 _ S3 => ⟨B3, e3, n3, S3.unnil, loop_out (OutS.sub al.subB o2) fun σ4 H4 B4 e4 n4 S4 b4 o4 => ⟨B4, e4, n4, S4, (b2.trans al.subB).trans b4, o4⟩⟩⟩
  · rintro σ H ⟨B2, e2, n2, S2, b2, o2⟩
    rw [List.drop_length] at o2
    exact o2 σ H B2 n2 S2 (.refl _)
theorem ds_for {t : Tg} {src : M (List D)} {body : M Fl} {tg it : Expr} {st : List Stmt} {pos : Pos} (hp : PassesOwn (model X.prog X.w) X.A X.env X.xe) (hc : X.calm = true) (hi : PI X tg it (tI F W src)) (hg : PG X tg (gT F t)) (hb : PSs X st (tS F W body))
    (hs : ∀ x, foldedSetIterable it X.env x = pure x := by intro _; rfl) : PS X (.For tg it st [] pos) (tS F W (sFor src t body)) :=
  (ps_for hp hc hi hg hb hs).imp fun D σ H ⟨B, e, n, S, o⟩ => ⟨B, e, [], n, S.nil, (OutS.bd n o).mono fun ds e' H' B' S' s' k J ir => for_run rfl rfl n S'.unnil ir k⟩

/-! ### while -/
def whileM (c : M Bool) (body : M Fl) : Nat → M Fl
  | 0 => fun _ => .bad
  | m + 1 => fun e => bd (c e) fun b e1 => if b then loopM (body e1) (whileM c body m) else .ok .nx e1
theorem ds_while {c : Expr} {st : List Stmt} {pos : Pos} {fc : M Bool} {body : M Fl} {m : Nat} (hp : PassesOwn (model X.prog X.w) X.A X.env X.xe) (hc : PT X c (tT F W fc)) (hb : PSs X st (tS F W body)) : PS X (.While c st [] pos) (tS F W (whileM fc body m)) := by
  refine (ps_while hp hc hb).imp fun D σ H ⟨B, e, n, S, o⟩ => ?_
  refine ⟨fun m σ H => ∃ B e, σ.length = F.n ∧ SR F σ H B e ∧ OutS F W B (whileM fc body m e) D, ⟨m, B, e, n, S, o⟩, ?_⟩
  rintro m σ H ⟨B, e, n, S, o⟩
  cases m with
  | zero => exact o.elim
  | succ m =>
    unfold whileM at o
    refine ⟨B, e, [], n, S.nil, (OutS.bd n o).mono fun b e1 H1 B1 S1 b1 k => ?_⟩
    cases b with
    | false => exact k σ H1 B1 n S1.unnil (.refl _)
    | true => exact ⟨fun σ H => ∃ B e, σ.length = F.n ∧ SR F σ H B e ∧ OutS F W B (whileM fc body m e) D, fun σ' H' h => ⟨m, Nat.lt_succ_self m, h⟩, B1, e1, n, S1.unnil, loop_out k fun σ4 H4 B4 e4 n4 S4 b4 o4 => ⟨B4, e4, n4, S4, o4⟩⟩
end
end DL

end
section
set_option maxRecDepth 100000
set_option maxHeartbeats 2000000
/-! DL5: what is held besides the slots, changes of owned objects, several names set at once, comprehensions. -/
namespace DL
open PySem PySem.Spec PyProof.Rows L2

def Sl.wd : Sl → D → Sl
  | .sh _, d => .sh d
  | .ow _, d => .ow d
  | .mu _, d => .mu d
theorem Sl.wd_own (s : Sl) (d : D) : (s.wd d).isOwn = s.isOwn := by cases s <;> rfl
section
variable {F : Fr} {W : WX} {z σ y : St} {H B H' B' : Hp} {e : Ev}
/-- the object of an owned slot is changed, by a call (or a store) that changes no other -/
theorem SR.call {i : Nat} {s : Sl} {p : Addr} {d' : D} (S : SR F z H B e) (he : e[i]? = some (some s)) (ho : s.isOwn = true) (hz : z[i]? = some (some (.ref p))) (sb : Sub B B') (sb' : Sub B' H') (nw : ∀ a, Ch H a → B' a = B a)
    (kp : ∀ a o, H a = some o → a ≠ p → H' a = some o) (ow : Own F.K H' B' p d') : SR F z H' B' (e.set i (some (s.wd d'))) := by
  have il : i < e.length := (List.getElem?_eq_some_iff.mp he).1
  obtain ⟨p1, h1, h2, h3⟩ := (S.sl _ _ he).own ho
  rw [hz] at h1; cases h1
  have Bp : B' p = none := by rw [nw p h3.ch]; exact h2
  have get : ∀ (j : Nat) (s' : Sl), (e.set i (some (s.wd d')))[j]? = some (some s') → (j = i ∧ s' = s.wd d') ∨ (j ≠ i ∧ e[j]? = some (some s')) := fun j s' q => by
    by_cases hj : j = i
    · subst hj; rw [List.getElem?_set_self il] at q; cases q; exact .inl ⟨rfl, rfl⟩
    · rw [List.getElem?_set_ne (Ne.symm hj)] at q; exact .inr ⟨hj, q⟩
  refine ⟨S.b0, sb', fun a o q m => kp a o (S.kept a o q m) fun w => ?_, fun a q => by rw [nw a (S.oldC q)]; exact S.nwB a q, by rw [List.length_set]; exact S.len, fun j s' q => ?_, fun j k s1 s2 q hjk z1 z2 o1 o2 w => ?_, fun j q r => ?_⟩
  · subst w
    have := S.sl _ _ he
    cases s with
    | sh d => cases ho
    | ow d => obtain ⟨p', g1, g2, g3, g4⟩ := this; rw [hz] at g1; cases g1; rw [g3] at q; cases q
    | mu d => obtain ⟨p', g1, g2, g3, g4⟩ := this; rw [hz] at g1; cases g1; exact m (List.mem_map.mpr ⟨_, g3, rfl⟩)
  · rcases get j s' q with ⟨rfl, rfl⟩ | ⟨hj, q⟩
    · have := S.sl _ _ he
      cases s with
      | sh d => cases ho
      | ow d => obtain ⟨p', g1, g2, g3, g4⟩ := this; rw [hz] at g1; cases g1; exact ⟨p, hz, Bp, g3, ow⟩
      | mu d => obtain ⟨p', g1, g2, g3, g4⟩ := this; rw [hz] at g1; cases g1; exact ⟨p, hz, Bp, g3, ow⟩
    · refine (S.sl j s' q).step (fun p' n w o' => ?_) sb
      have hne : p' ≠ p := fun y => S.sep i j _ _ p (Ne.symm hj) he q ho o' hz (by rw [← y]; exact w)
      obtain ⟨p2, g1, g2, g3⟩ := (S.sl j s' q).own o'
      rw [w] at g1; cases g1
      obtain ⟨o, hoo⟩ := g3.there
      exact ⟨by rw [kp _ _ hoo hne, hoo], by rw [nw _ g3.ch]; exact n⟩
  · rcases get j s1 z1 with ⟨ej, es⟩ | ⟨hj, y1⟩
    · rcases get k s2 z2 with ⟨ek, _⟩ | ⟨hk, y2⟩
      · exact absurd (ej.trans ek.symm) hjk
      · subst ej
        exact S.sep j k s s2 q hjk he y2 ho o2 w
    · rcases get k s2 z2 with ⟨ek, es⟩ | ⟨hk, y2⟩
      · subst ek
        exact S.sep j k s1 s q hjk y1 he o1 ho w
      · exact S.sep j k s1 s2 q hjk y1 y2 o1 o2 w
  · obtain ⟨d, g1, g2⟩ := S.mus j q r
    by_cases hj : j = i
    · subst hj
      rw [he] at g1
      cases g1
      exact ⟨d', List.getElem?_set_self il, g2⟩
    · exact ⟨d, by rw [List.getElem?_set_ne (Ne.symm hj)]; exact g1, g2⟩
theorem app_last {α : Type} {l : List α} {a : α} : (l ++ [a])[l.length]? = some a := by simp
theorem app_lt {α : Type} {l : List α} {a : α} {i : Nat} (h : i < l.length) : (l ++ [a])[i]? = l[i]? := List.getElem?_append_left h
theorem app_cases {α : Type} {l : List α} {a b : α} {i : Nat} (h : (l ++ [a])[i]? = some b) : (i < l.length ∧ l[i]? = some b) ∨ (i = l.length ∧ b = a) := by
  rcases Nat.lt_trichotomy i l.length with q | q | q
  · rw [app_lt q] at h; exact .inl ⟨q, h⟩
  · subst q; rw [app_last] at h; cases h; exact .inr ⟨rfl, rfl⟩
  · rw [List.getElem?_eq_none (by simp; omega)] at h; cases h
/-- one more thing is held -/
theorem SR.push {s : Sl} {v : V} (S : SR F z H B e) (hv : SlV F z e H B s v) : SR F (z ++ [some v]) H B (e ++ [some s]) := by
  have zl := S.len
  have gz : ∀ i, i < e.length → (z ++ [some v])[i]? = z[i]? := fun i h => app_lt (by rw [zl]; exact h)
  have gl : (z ++ [some v])[e.length]? = some (some v) := by rw [← zl]; exact app_last
  refine ⟨S.b0, S.sub, S.kept, S.nwB, by simp [zl], fun j s' q => ?_, fun j k s1 s2 p hjk z1 z2 o1 o2 w w' => ?_, fun j p r => ?_⟩
  · rcases app_cases q with ⟨hj, q2⟩ | ⟨rfl, q2⟩
    · have := S.sl j s' q2
      cases s' with
      | sh d => obtain ⟨v', g1, g2⟩ := this; exact ⟨v', by rw [gz j hj]; exact g1, g2⟩
      | ow d => obtain ⟨v', g1, g2⟩ := this; exact ⟨v', by rw [gz j hj]; exact g1, g2⟩
      | mu d => obtain ⟨v', g1, g2⟩ := this; exact ⟨v', by rw [gz j hj]; exact g1, g2⟩
    · cases q2
      cases s with
      | sh d => exact ⟨v, gl, hv⟩
      | ow d => obtain ⟨p, rfl, fr⟩ := hv; exact ⟨p, gl, fr.nB, fr.n0, fr.own⟩
      | mu d => exact hv.elim
  · rcases app_cases z1 with ⟨hj, y1⟩ | ⟨ej, y1⟩
    · rw [gz j hj] at w
      rcases app_cases z2 with ⟨hk, y2⟩ | ⟨ek, y2⟩
      · rw [gz k hk] at w'
        exact S.sep j k s1 s2 p hjk y1 y2 o1 o2 w w'
      · subst ek
        cases y2
        rw [gl] at w'
        cases w'
        cases s with
        | sh d => cases o2
        | ow d => obtain ⟨p', e1, fr⟩ := hv; cases e1; exact fr.ns j s1 y1 o1 w
        | mu d => exact hv.elim
    · subst ej
      cases y1
      rw [gl] at w
      cases w
      rcases app_cases z2 with ⟨hk, y2⟩ | ⟨ek, y2⟩
      · rw [gz k hk] at w'
        cases s with
        | sh d => cases o1
        | ow d => obtain ⟨p', e1, fr⟩ := hv; cases e1; exact fr.ns k s2 y2 o2 w'
        | mu d => exact hv.elim
      · exact hjk ek.symm
  · obtain ⟨d, g1, g2⟩ := S.mus j p r
    have hj : j < e.length := (List.getElem?_eq_some_iff.mp g1).1
    exact ⟨d, by rw [app_lt hj]; exact g1, by rw [gz j hj]; exact g2⟩
theorem SR.pop {s : Sl} {v : V} (S : SR F (z ++ [some v]) H B (e ++ [some s])) (nm : s.isMu = false) : SR F z H B e ∧ SlV F z e H B s v := by
  have zl : z.length = e.length := by have := S.len; simpa using this
  have gz : ∀ i, i < e.length → (z ++ [some v])[i]? = z[i]? := fun i h => app_lt (by rw [zl]; exact h)
  have ge : ∀ i, i < e.length → (e ++ [some s])[i]? = e[i]? := fun i h => app_lt h
  have gl : (z ++ [some v])[e.length]? = some (some v) := by rw [← zl]; exact app_last
  have el : (e ++ [some s])[e.length]? = some (some s) := app_last
  have lt : ∀ {i : Nat} {o : Option Sl}, e[i]? = some o → i < e.length := fun h => (List.getElem?_eq_some_iff.mp h).1
  refine ⟨⟨S.b0, S.sub, S.kept, S.nwB, zl, fun j s' q => ?_, fun j k s1 s2 p hjk z1 z2 o1 o2 w w' => ?_, fun j p r => ?_⟩, ?_⟩
  · have hj := lt q
    have := S.sl j s' (by rw [ge j hj]; exact q)
    cases s' with
    | sh d => obtain ⟨v', g1, g2⟩ := this; exact ⟨v', by rw [← gz j hj]; exact g1, g2⟩
    | ow d => obtain ⟨v', g1, g2⟩ := this; exact ⟨v', by rw [← gz j hj]; exact g1, g2⟩
    | mu d => obtain ⟨v', g1, g2⟩ := this; exact ⟨v', by rw [← gz j hj]; exact g1, g2⟩
  · exact S.sep j k s1 s2 p hjk (by rw [ge j (lt z1)]; exact z1) (by rw [ge k (lt z2)]; exact z2) o1 o2 (by rw [gz j (lt z1)]; exact w) (by rw [gz k (lt z2)]; exact w')
  · obtain ⟨d, g1, g2⟩ := S.mus j p r
    rcases app_cases g1 with ⟨hj, g3⟩ | ⟨rfl, g3⟩
    · exact ⟨d, g3, by rw [← gz j hj]; exact g2⟩
    · cases g3; cases nm
  · have := S.sl _ _ el
    cases s with
    | sh d => obtain ⟨v', g1, g2⟩ := this; rw [gl] at g1; cases g1; exact g2
    | ow d =>
      obtain ⟨p, g1, g2, g3, g4⟩ := this
      rw [gl] at g1; cases g1
      exact ⟨p, rfl, g2, g3, g4, fun j s' q o' w => S.sep e.length j _ _ p (fun h => by subst h; exact Nat.lt_irrefl _ (lt q)) el (by rw [ge j (lt q)]; exact q) rfl o' gl (by rw [gz j (lt q)]; exact w)⟩
    | mu d => cases nm
/-- slots are forgotten, the others kept -/
def wipeE (e : Ev) : List Nat → Ev
  | [] => e
  | v :: vs => (wipeE e vs).set v none
theorem wipeE_len (e : Ev) : ∀ vs, (wipeE e vs).length = e.length
  | [] => rfl
  | v :: vs => by unfold wipeE; rw [List.length_set, wipeE_len e vs]
theorem wipeE_some {e : Ev} {i : Nat} {s : Sl} : ∀ {vs : List Nat}, (wipeE e vs)[i]? = some (some s) → e[i]? = some (some s) ∧ i ∉ vs
  | [], h => ⟨h, by simp⟩
  | v :: vs, h => by
    unfold wipeE at h
    by_cases hi : v = i
    · subst hi
      by_cases hv : v < (wipeE e vs).length
      · rw [List.getElem?_set_self hv] at h; cases h
      · rw [List.getElem?_eq_none (by simpa using hv)] at h; cases h
    · rw [List.getElem?_set_ne hi] at h
      obtain ⟨h1, h2⟩ := wipeE_some h
      exact ⟨h1, by simp only [List.mem_cons, not_or]; exact ⟨fun e => hi e.symm, h2⟩⟩
theorem wipeE_out {e : Ev} {i : Nat} : ∀ {vs : List Nat}, i ∉ vs → (wipeE e vs)[i]? = e[i]?
  | [], _ => rfl
  | v :: vs, h => by
    simp only [List.mem_cons, not_or] at h
    unfold wipeE
    rw [List.getElem?_set_ne (Ne.symm h.1)]
    exact wipeE_out h.2
def noMu (vs : List Nat) (e : Ev) : Bool := vs.all fun i => !muAt i e
/-- the slots at vs are forgotten; z' is z off vs -/
theorem SR.wipe {z' : St} {vs : List Nat} (S : SR F z H B e) (hl : z'.length = z.length) (hz : ∀ i, i ∉ vs → z'[i]? = z[i]?) (nm : noMu vs e = true) : SR F z' H B (wipeE e vs) := by
  refine ⟨S.b0, S.sub, S.kept, S.nwB, by rw [wipeE_len, hl]; exact S.len, fun j s' q => ?_, fun j k s1 s2 p hjk z1 z2 o1 o2 w w' => ?_, fun j p r => ?_⟩
  · obtain ⟨q, hj⟩ := wipeE_some q
    have := S.sl j s' q
    cases s' with
    | sh d => obtain ⟨v', g1, g2⟩ := this; exact ⟨v', by rw [hz j hj]; exact g1, g2⟩
    | ow d => obtain ⟨v', g1, g2⟩ := this; exact ⟨v', by rw [hz j hj]; exact g1, g2⟩
    | mu d => obtain ⟨v', g1, g2⟩ := this; exact ⟨v', by rw [hz j hj]; exact g1, g2⟩
  · obtain ⟨q1, hj⟩ := wipeE_some z1
    obtain ⟨q2, hk⟩ := wipeE_some z2
    exact S.sep j k s1 s2 p hjk q1 q2 o1 o2 (by rw [← hz j hj]; exact w) (by rw [← hz k hk]; exact w')
  · obtain ⟨d, g1, g2⟩ := S.mus j p r
    have hj : j ∉ vs := fun h => by
      have := List.all_eq_true.mp nm j h
      unfold muAt at this
      rw [g1] at this
      cases this
    exact ⟨d, by rw [wipeE_out hj]; exact g1, by rw [hz j hj]; exact g2⟩
/-- the slots at vs (that hold nothing) get again what e0 has there, where it is never changed -/
def restE (e0 : Ev) (e : Ev) : List Nat → Ev
  | [] => e
  | v :: vs => (restE e0 e vs).set v (match e0[v]? with
    | some (some (.sh d)) => some (.sh d)
    | _ => none)
theorem restE_len (e0 e : Ev) : ∀ vs, (restE e0 e vs).length = e.length
  | [] => rfl
  | v :: vs => by unfold restE; rw [List.length_set, restE_len e0 e vs]
theorem restE_out {e0 e : Ev} {i : Nat} : ∀ {vs : List Nat}, i ∉ vs → (restE e0 e vs)[i]? = e[i]?
  | [], _ => rfl
  | v :: vs, h => by
    simp only [List.mem_cons, not_or] at h
    unfold restE
    rw [List.getElem?_set_ne (Ne.symm h.1)]
    exact restE_out h.2
theorem restE_in {e0 e : Ev} {i : Nat} {s : Sl} : ∀ {vs : List Nat}, i ∈ vs → (restE e0 e vs)[i]? = some (some s) → e0[i]? = some (some s) ∧ ∃ d, s = .sh d
  | v :: vs, h, q => by
    unfold restE at q
    by_cases hi : v = i
    · subst hi
      by_cases hv : v < (restE e0 e vs).length
      · rw [List.getElem?_set_self hv] at q
        have q := Option.some.inj q
        split at q
        · cases q; rename_i d hd; exact ⟨hd, d, rfl⟩
        · cases q
      · rw [List.getElem?_eq_none (by simpa using hv)] at q; cases q
    · rw [List.getElem?_set_ne hi] at q
      have h' : i ∈ vs := by
        rcases List.mem_cons.mp h with e | h
        · exact absurd e.symm hi
        · exact h
      exact restE_in h' q
theorem SR.rest {z' : St} {vs : List Nat} {e0 : Ev} {H0 B0 : Hp} (S : SR F z H B e) (S0 : SR F z' H0 B0 e0) (sb : Sub B0 B) (hl : z'.length = z.length) (hz : ∀ i, i ∉ vs → z'[i]? = z[i]?) (nm : noMu vs e = true) : SR F z' H B (restE e0 e vs) := by
  have cs : ∀ (j : Nat) (s : Sl), (restE e0 e vs)[j]? = some (some s) → (j ∈ vs ∧ e0[j]? = some (some s) ∧ ∃ d, s = .sh d) ∨ (j ∉ vs ∧ e[j]? = some (some s)) := fun j s q => by
    by_cases hj : j ∈ vs
    · exact .inl ⟨hj, restE_in hj q⟩
    · rw [restE_out hj] at q; exact .inr ⟨hj, q⟩
  refine ⟨S.b0, S.sub, S.kept, S.nwB, by rw [restE_len, hl]; exact S.len, fun j s' q => ?_, fun j k s1 s2 p hjk z1 z2 o1 o2 w w' => ?_, fun j p r => ?_⟩
  · rcases cs j s' q with ⟨hj, q, d, rfl⟩ | ⟨hj, q⟩
    · obtain ⟨v, g1, g2⟩ := S0.sl j _ q
      exact ⟨v, g1, g2.mono sb⟩
    · have := S.sl j s' q
      cases s' with
      | sh d => obtain ⟨v', g1, g2⟩ := this; exact ⟨v', by rw [hz j hj]; exact g1, g2⟩
      | ow d => obtain ⟨v', g1, g2⟩ := this; exact ⟨v', by rw [hz j hj]; exact g1, g2⟩
      | mu d => obtain ⟨v', g1, g2⟩ := this; exact ⟨v', by rw [hz j hj]; exact g1, g2⟩
  · rcases cs j s1 z1 with ⟨_, _, d, rfl⟩ | ⟨hj, q1⟩
    · cases o1
    · rcases cs k s2 z2 with ⟨_, _, d, rfl⟩ | ⟨hk, q2⟩
      · cases o2
      · exact S.sep j k s1 s2 p hjk q1 q2 o1 o2 (by rw [← hz j hj]; exact w) (by rw [← hz k hk]; exact w')
  · obtain ⟨d, g1, g2⟩ := S.mus j p r
    have hj : j ∉ vs := fun h => by
      have := List.all_eq_true.mp nm j h
      unfold muAt at this
      rw [g1] at this
      cases this
    exact ⟨d, by rw [restE_out hj]; exact g1, by rw [hz j hj]; exact g2⟩
end

/-! ### x, y = e1, e2: the values first, then the stores from the right -/
def parM : List (M Sl) → Ev → R Unit
  | [], e => .ok () e
  | f :: fs, e => bd (f e) fun s e1 => parM fs (e1 ++ [some s])
def popSet (i : Nat) (e : Ev) : Option Ev := match e.getLast? with
  | some (some s) => if muAt i e.dropLast || s.isMu then none else some (e.dropLast.set i (some s))
  | _ => none
def popSets : List Nat → Ev → Option Ev
  | [], e => some e
  | i :: is, e => match popSets is e with
    | some e1 => popSet i e1
    | none => none
def sPar (is : List Nat) (fs : List (M Sl)) : M Fl := fun e => bd (parM fs e) fun _ e1 => match popSets is e1 with
  | some e2 => .ok .nx e2
  | none => .bad
def chainE (F : Fr) (W : WX) : List (M Sl) → TA
  | [] => tNil
  | f :: fs => tCons (tE F W f) (chainE F W fs)
section
variable {X : Cx} {F : Fr} {W : WX}
theorem par_run : ∀ (fs : List (M Sl)) {σ y : St} {H B : Hp} {e : Ev} {k : Unit → Ev → Hp → Hp → Prop} {Q : List V → Hp → Prop}, σ.length = F.n → SR F (σ ++ y) H B e → OutR F W σ (σ ++ y) B (parM fs e) (fun u e' H' B' => True) →
    (∀ e' H' B' vs, parM fs e = .ok () e' → vs.length = fs.length → SR F (σ ++ (y ++ vs.map some)) H' B' e' → Sub B B' → Q vs H') → chainE F W fs σ H Q
  | [], σ, y, H, B, e, k, Q, n, S, o, f => f e H B [] rfl rfl (by simpa using S) (.refl _)
  | g :: fs, σ, y, H, B, e, k, Q, n, S, o, f => by
    refine ⟨B, e, y, n, S, ?_⟩
    cases hg : g e with
    | bad => unfold parM at o; rw [hg] at o; exact o.elim
    | exn x e1 =>
      unfold parM at o; rw [hg] at o
      exact o
    | ok s e1 =>
      intro H1 B1 S1 b1 v hv
      have S2 : SR F (σ ++ (y ++ [some v])) H1 B1 (e1 ++ [some s]) := by
        rw [← List.append_assoc]; exact S1.push hv
      refine par_run (k := k) fs n S2 ?_ fun e' H' B' vs he hl S3 b3 => ?_
      · unfold parM at o; rw [hg] at o
        cases hp : parM fs (e1 ++ [some s]) with
        | bad => rw [bd_ok, hp] at o; exact o.elim
        | exn x e2 =>
          rw [bd_ok, hp] at o
          exact fun c d y' H' B' S' s' => o c d y' H' B' S' (b1.trans s')
        | ok u e2 => exact fun _ _ _ _ => trivial
      · refine f e' H' B' (v :: vs) (by unfold parM; rw [hg]; exact he) (by simp [hl]) ?_ (b1.trans b3)
        have : σ ++ (y ++ List.map some (v :: vs)) = σ ++ (y ++ [some v] ++ List.map some vs) := by simp
        rw [this]; exact S3
/-- stores from the right -/
def setL : List Nat → List V → St → St
  | i :: is, v :: vs, σ => (setL is vs σ).set i (some v)
  | _, _, σ => σ
theorem setL_len : ∀ (is : List Nat) (vs : List V) (σ : St), (setL is vs σ).length = σ.length
  | [], _, _ => rfl
  | _ :: _, [], _ => rfl
  | i :: is, v :: vs, σ => by unfold setL; rw [List.length_set, setL_len is vs σ]
theorem popSets_sr : ∀ (is : List Nat) (vs : List V) {σ y : St} {H B : Hp} {e e2 : Ev}, vs.length = is.length → (∀ i ∈ is, i < σ.length) → SR F (σ ++ (y ++ vs.map some)) H B e → popSets is e = some e2 → SR F (setL is vs σ ++ y) H B e2
  | [], [], σ, y, H, B, e, e2, _, _, S, h => by cases h; show SR F (σ ++ y) H B e; simpa using S
  | i :: is, v :: vs, σ, y, H, B, e, e2, hl, hi, S, h => by
    have e0 : σ ++ (y ++ List.map some (v :: vs)) = σ ++ ((y ++ [some v]) ++ List.map some vs) := by simp
    rw [e0] at S
    unfold popSets at h
    cases h1 : popSets is e with
    | none => rw [h1] at h; cases h
    | some e1 =>
      rw [h1] at h
      have S1 := popSets_sr is vs (by simpa using hl) (fun j hj => hi j (List.mem_cons_of_mem _ hj)) S h1
      rw [← List.append_assoc] at S1
      have h : popSet i e1 = some e2 := h
      unfold popSet at h
      cases hg : e1.getLast? with
      | none => rw [hg] at h; cases h
      | some o =>
        cases o with
        | none => rw [hg] at h; cases h
        | some s =>
          rw [hg] at h
          cases hb : muAt i e1.dropLast || s.isMu with
          | true => simp only [hb] at h; cases h
          | false =>
            simp only [hb] at h
            cases h
            obtain ⟨b1, b2⟩ := Bool.or_eq_false_iff.mp hb
            have ee : e1 = e1.dropLast ++ [some s] := by
              obtain ⟨ys, hy⟩ := List.getLast?_eq_some_iff.mp hg
              rw [hy]; simp
            rw [ee] at S1
            obtain ⟨S2, hv⟩ := S1.pop b2
            have S3 := setE_sr S2 hv b1
            rw [set_app (by rw [setL_len]; exact hi i List.mem_cons_self)] at S3
            rw [ee, List.dropLast_concat]
            exact S3
theorem ds_assignAll {pins : List (Addr × Obj)} {H : Hp} {Q : Unit → Shared → Prop} (hN : X.N.Nodup) (xs : List Str) : ∀ (is : List Nat) (vs : List V) (us : List Value) (s : Shared) (σ : St), Inv X pins σ H s → xs.length = is.length →
    (∀ (k : Nat) (x : Str), xs[k]? = some x → ∃ i, is[k]? = some i ∧ X.N[i]? = some x ∧ X.env.scope.names.lookup x = some .local) → Vals vs us → vs.length = xs.length →
    (∀ s', Inv X pins ((is.zip vs).foldl (fun σ p => σ.set p.1 (some p.2)) σ) H s' → Q () s') → wpAny (model X.prog X.w) X.A (assignInOrder (xs.map fun n => bindName X.env n) us) Q X.xe s := by
  induction xs with
  | nil =>
    intro is vs us s σ I hl hx r hv k
    cases vs with
    | nil =>
      cases r
      cases is with
      | nil => exact assignInOrder_nil (k s I)
      | cons a b => cases hl
    | cons a b => cases hv
  | cons x xs ih =>
    intro is vs us s σ I hl hx r hv k
    cases r with
    | nil => cases hv
    | cons rv rvs =>
      cases is with
      | nil => cases hl
      | cons i is =>
        obtain ⟨j, h1, h2, h3⟩ := hx 0 x rfl
        cases h1
        refine assignInOrder_cons (wpAny_bindName (store_ok I hN h2 (.inl h3) rv (fun s2 I2 => ?_) (.inr h3)))
        exact ih is _ _ s2 _ I2 (by simpa using hl) (fun k x hk => hx (k + 1) x (by simpa using hk)) rvs (by simpa using hv) k
theorem foldl_setL : ∀ (is : List Nat) (vs : List V) (σ : St), is.length = vs.length → (is.reverse.zip vs.reverse).foldl (fun σ p => σ.set p.1 (some p.2)) σ = setL is vs σ
  | [], [], σ, _ => rfl
  | i :: is, v :: vs, σ, h => by
    have h' : is.length = vs.length := by simpa using h
    rw [List.reverse_cons, List.reverse_cons, List.zip_append (by simp [h']), List.foldl_append, foldl_setL is vs σ h']
    rfl
theorem ps_parN {is : List Nat} {xs : List Str} {ts es : List Expr} {ta : TA} {kt k2 : Nat} {pt pt2 pos : Pos} (hc : X.calm = true) (hN : X.N.Nodup) (hl : xs.length = is.length)
    (hx : ∀ (k : Nat) (x : Str), xs[k]? = some x → ∃ i, is[k]? = some i ∧ X.N[i]? = some x ∧ X.env.scope.names.lookup x = some .local) (hn : xs.length ≤ 3) (ha : PA X es ta)
    (hw : swappedStores [.Tuple ts kt pt] (.Tuple es k2 pt2) X.env = pure (some xs))
    (hs : swapsWithSole [.Tuple ts kt pt] (.Tuple es k2 pt2) pos.line X.env = pure false) :
    PS X (.Assign [.Tuple ts kt pt] (.Tuple es k2 pt2) pos) (fun D σ H => ta σ H fun vs H1 => vs.length = xs.length ∧ D.nx (setL is vs σ) H1) := by
  refine ⟨fun pins s σ H D I h => ?_⟩
  rw [exec_Assign_arm]
  refine wpAny_bind (wpAny_standAt ?_)
  rw [hs]
  refine wpAny_bind (wpAny_pure ?_)
  rw [if_neg (by decide)]
  refine wpAny_bind (Tuple_ (thn (ha.run _ pins s σ H _ I h) fun us s1 ⟨vs, H1, I1, r1, e1, q1⟩ => ?_))
  have lu : us.length = xs.length := by rw [← e1, r1.length]
  refine wpAny_newObj_type ?_ (by show us.toArray.size ≤ sizeLine; rw [List.size_toArray, lu, sizeLine_eq]; omega)
  have I2 : Inv X pins σ H1 { s1 with heap := s1.heap.push { cls := .type "tuple", data := .seq us.toArray } } := I1.kept (t' := s1.toks) fun b o e => Heap.get?_push_of_some _ e
  rw [hw]
  refine wpAny_bind (wpAny_pure ?_)
  show wpAny (model X.prog X.w) X.A (do rule "assign.swapped-stores"; let items ← unpackItems (.ref s1.heap.objs.size) xs.length none; assignInOrder (xs.reverse.map fun n => bindName X.env n) items.reverse; pure Flow.next) _ _ _
  have hsz : xs.length = us.toArray.size := by rw [List.size_toArray, lu]
  rw [hsz]
  refine wpAny_bind (wpAny_rule (wpAny_bind (unpackItems_tuple (items := us.toArray) (I.ok.hd hc) (IsTup.new s1.heap _) fun h' hx' => ?_)))
  have I3 := I2.kept (h' := h') (t' := s1.toks) fun b o e => hx' b o (Nat.ne_of_lt (Heap.lt_size e)) e
  refine wpAny_bind (ds_assignAll hN xs.reverse is.reverse vs.reverse _ _ _ I3 (by simp [hl]) (fun k x hk => ?_) ?_ (by simp [e1]) fun s' I' => wpAny_pure ?_)
  · have hkl : k < xs.length := by
      have := (List.getElem?_eq_some_iff.mp hk).1
      simpa using this
    rw [List.getElem?_reverse hkl] at hk
    obtain ⟨i, g1, g2⟩ := hx _ x hk
    exact ⟨i, by rw [List.getElem?_reverse (by rw [← hl]; exact hkl), ← hl]; exact g1, g2⟩
  · have rev : ∀ {xs : List V} {us : List Value}, Vals xs us → Vals xs.reverse us.reverse := by
      intro xs us r
      induction r with
      | nil => exact .nil
      | cons a t ih => rw [List.reverse_cons, List.reverse_cons]; exact Vals.append ih (.cons a .nil)
    simpa using rev r1
  · rw [foldl_setL is vs σ (by rw [e1, hl])] at I'
    exact ⟨_, H1, I', q1⟩
theorem ds_par {is : List Nat} {fs : List (M Sl)} {st : Stmt} (hl : fs.length = is.length) (hi : ∀ i ∈ is, i < F.n) (h : PS X st (fun D σ H => chainE F W fs σ H fun vs H1 => vs.length = fs.length ∧ D.nx (setL is vs σ) H1)) : PS X st (tS F W (sPar is fs)) :=
  h.imp fun D σ H ⟨B, e, n, S, o⟩ => by
    unfold sPar at o
    refine par_run (y := []) (k := fun _ _ _ _ => True) fs n S.nil ?_ fun e' H' B' vs he hv S' b' => ⟨hv, ?_⟩
    · cases hp : parM fs e with
      | bad => rw [hp] at o; exact o.elim
      | exn x e2 => rw [hp] at o; exact fun c d y H' B' S' s' => o c d σ y H' B' n S' s'
      | ok u e2 => exact fun _ _ _ _ => trivial
    · rw [he] at o
      have o : OutS F W B (match popSets is e' with | some e2 => .ok .nx e2 | none => .bad) D := o
      cases h2 : popSets is e' with
      | none => rw [h2] at o; exact o.elim
      | some e2 =>
        rw [h2] at o
        have S2 := popSets_sr is vs (by rw [hv, hl]) (fun i h => by rw [n]; exact hi i h) S' h2
        exact o _ H' B' (by rw [setL_len]; exact n) S2.unnil b'
end
end DL

end
section
set_option maxRecDepth 100000
set_option maxHeartbeats 2000000
/-! DL6: list comprehensions. -/
namespace DL
open PySem PySem.Spec PyProof.Rows L2

def never : WX := fun _ _ _ _ => False
/-- the list that is made is the last thing held -/
def accE (d : D) (e : Ev) : Option Ev := match e.getLast? with
  | some (some (.ow (.lst acc))) => if acc.length < sizeLine then some (e.dropLast ++ [some (.ow (.lst (acc ++ [d])))]) else none
  | _ => none
def wipeC (vs : List Nat) (e : Ev) : Option Ev := if noMu vs e then some (wipeE e vs) else none
def compM (t : Tg) (vs : List Nat) (tst : M Bool) (elt : M Sl) : List D → M Unit
  | [] => fun e => .ok () e
  | d :: ds => fun e => match setTg t d e with
    | none => .bad
    | some e1 => bd (tst e1) fun b e2 => if b then bd (elt e2) fun s e3 => (match accE s.d e3 with
        | some e4 => (match wipeC vs e4 with
          | some e5 => compM t vs tst elt ds e5
          | none => .bad)
        | none => .bad)
      else (match wipeC vs e2 with
        | some e5 => compM t vs tst elt ds e5
        | none => .bad)
/-- an exception that would leave the block is not carried -/
def noEx {α : Type} (r : R α) : R α := match r with
  | .ok a e => .ok a e
  | _ => .bad
def popL (e : Ev) : Option (List D × Ev) := match e.getLast? with
  | some (some (.ow (.lst acc))) => some (acc, e.dropLast)
  | _ => none
def eComp (src : M (List D)) (t : Tg) (vs : List Nat) (tst : M Bool) (elt : M Sl) : M Sl := fun e0 => bd (src e0) fun ds e1 =>
  if noMu vs e1 then bd (noEx (compM t vs tst elt ds (wipeE e1 vs ++ [some (.ow (.lst []))]))) fun _ e2 => (match popL e2 with
    | some (acc, e3) => if noMu vs e3 then .ok (.ow (.lst acc)) (restE e1 e3 vs) else .bad
    | none => .bad)
  else .bad
def tYesM : M Bool := fun e => .ok true e
section
variable {X : Cx} {F : Fr} {W : WX}
theorem last_split {e : Ev} {o : Option Sl} (h : e.getLast? = some o) : e = e.dropLast ++ [o] := by
  obtain ⟨ys, hy⟩ := List.getLast?_eq_some_iff.mp h
  rw [hy]; simp
theorem wipe_len (σ : St) (vs : List Nat) : (wipe σ vs).length = σ.length := wipe_length σ vs
theorem wipe_get {σ : St} {i : Nat} : ∀ {vs : List Nat}, i ∉ vs → (wipe σ vs)[i]? = σ[i]? := fun {vs} h => wipe_out h
theorem wipe_off {σ σ' : St} {ix : List Nat} : ∀ (vs : List Nat), (∀ i ∈ ix, i ∈ vs) → Off ix σ σ' → wipe σ' vs = wipe σ vs := fun vs sub o => by
  have at_ : ∀ (σ : St) (vs : List Nat) (i : Nat), i ∈ vs → (wipe σ vs)[i]? = none ∨ (wipe σ vs)[i]? = some none := by
    intro σ vs
    induction vs with
    | nil => intro i h; cases h
    | cons v vs ih =>
      intro i h
      unfold wipe
      by_cases hv : v = i
      · subst hv
        by_cases hl : v < (wipe σ vs).length
        · exact .inr (List.getElem?_set_self hl)
        · exact .inl (List.getElem?_eq_none (by simpa using hl))
      · rw [List.getElem?_set_ne hv]
        rcases List.mem_cons.mp h with e | h
        · exact absurd e.symm hv
        · exact ih i h
  apply List.ext_getElem?
  intro i
  by_cases h : i ∈ vs
  · have l1 := wipe_len σ vs
    have l2 := wipe_len σ' vs
    have l3 := o.1
    rcases at_ σ vs i h with a | a <;> rcases at_ σ' vs i h with b | b
    · rw [a, b]
    · have := (List.getElem?_eq_some_iff.mp b).1
      have := List.getElem?_eq_none_iff.mp a
      omega
    · have := (List.getElem?_eq_some_iff.mp a).1
      have := List.getElem?_eq_none_iff.mp b
      omega
    · rw [a, b]
  · rw [wipe_get h, wipe_get h]
    exact o.2 i fun z => h (sub i z)
theorem wipe_wipe {σ : St} (vs : List Nat) : wipe (wipe σ vs) vs = wipe σ vs :=
  wipe_off (σ := σ) (σ' := wipe σ vs) (ix := vs) vs (fun _ h => h) ⟨wipe_len σ vs, fun i h => wipe_get h⟩

theorem off_right {a b : St} {j m : Nat} (h : m ≤ j) (l : a.length = m) : (a ++ b)[j]? = b[j - m]? := by
  rw [List.getElem?_append_right (by rw [l]; exact h), l]
theorem comp_run {t : Tg} {vs : List Nat} {tst : M Bool} {elt : M Sl} {J : It} {ds : List D} {σ y : St} {H B : Hp} {e : Ev} {L : Addr} {Qd : Hp → Prop} {k : Unit → Ev → Hp → Hp → Prop} (hv : ∀ i ∈ t.ix, i ∈ vs) (hvn : ∀ i ∈ vs, i < F.n) (n : σ.length = F.n)
    (S : SR F (wipe σ vs ++ (y ++ [some (.ref L)])) (upd H L (.lst [])) B e) (ir : ItR F.K B J ds) (o : OutR F never (wipe σ vs) (wipe σ vs ++ (y ++ [some (.ref L)])) B (noEx (compM t vs tst elt ds e)) k)
    (hd : ∀ H' B' e', SR F (wipe σ vs ++ (y ++ [some (.ref L)])) H' B' e' → Sub B B' → k () e' H' B' → Qd H') :
    ∃ W' : Nat → Nat → Hp → Prop, (∃ m, W' 0 m (upd H L (.lst []))) ∧ ∀ i m H, W' i m H →
      (J.stop i H ∧ Qd H) ∨ (J.go i H ∧ ∃ Nx : Hp → Prop, (∀ H', Nx H' → ∃ m', m' < m ∧ W' (i + 1) m' H') ∧ ∀ x H', J.yld i H x H' → gT F t x (wipe σ vs) H' fun σ2 H2 => wipe σ2 vs = wipe σ vs ∧ tT F never tst σ2 H2 fun b H3 =>
        if b = true then tV F never elt σ2 H3 fun v H4 => ∃ acc, H4 L = some (.lst acc) ∧ acc.length < sizeLine ∧ Nx (upd H4 L (.lst (acc ++ [v]))) else Nx H3) := by
  have wn : (wipe σ vs).length = F.n := by rw [wipe_len]; exact n
  have wk : Walk J ds.length (fun H => Sub B H) (fun i H x H' => ∀ B2, Sub B B2 → Sub B2 H → ∃ d B3, ds[i]? = some d ∧ Al H B2 H' B3 ∧ Rep F.K B3 x d) :=
    ⟨fun i H hi q => ir.go i H hi q, fun H q => ir.stop H q, fun i H x H' hi q y B2 b1 b2 => ir.yld i H x H' B2 hi b1 b2 y⟩
  refine lc_it wk (fun i H => ∃ B2 e2, SR F (wipe σ vs ++ (y ++ [some (.ref L)])) H B2 e2 ∧ Sub B B2 ∧ OutR F never (wipe σ vs) (wipe σ vs ++ (y ++ [some (.ref L)])) B2 (noEx (compM t vs tst elt (ds.drop i) e2)) k) ⟨B, e, S, .refl _, by simpa using o⟩
    (fun i H _ ⟨B2, e2, S2, b, _⟩ => b.trans S2.sub) ?_ ?_
  · rintro i x H1 H1' hi ⟨B2, e2, S2, b2, o2⟩ yy
    obtain ⟨d, B3, hd', al, r⟩ := yy B2 b2 S2.sub
    obtain ⟨hil, hdv⟩ := List.getElem?_eq_some_iff.mp hd'
    rw [List.drop_eq_getElem_cons hil, hdv] at o2
    unfold compM at o2
    cases h : setTg t d e2 with
    | none => rw [h] at o2; exact o2.elim
    | some e3 =>
      rw [h] at o2
      refine ⟨B3, e2, _, d, e3, wn, S2.al al, r, h, fun σ3 n3 of3 S3 => ?_⟩
      have w3 : wipe σ3 vs = wipe σ vs := (wipe_off vs hv of3).trans (wipe_wipe vs)
      have offz : ∀ (j : Nat), j ∉ vs → (wipe σ vs ++ (y ++ [some (.ref L)]))[j]? = (σ3 ++ (y ++ [some (.ref L)]))[j]? := fun j hj => by
        by_cases hl : j < F.n
        · rw [List.getElem?_append_left (by rw [wn]; exact hl), List.getElem?_append_left (by rw [n3]; exact hl)]
          exact ((of3.2 j fun z => hj (hv j z))).symm
        · exact (off_right (by omega) wn).trans (off_right (by omega) n3).symm
      have next : ∀ {H5 B5 e5}, SR F (σ3 ++ (y ++ [some (.ref L)])) H5 B5 e5 → Sub B3 B5 → ∀ {e6}, wipeC vs e5 = some e6 → OutR F never (wipe σ vs) (wipe σ vs ++ (y ++ [some (.ref L)])) B2 (noEx (compM t vs tst elt (ds.drop (i + 1)) e6)) k →
          ∃ B2 e2, SR F (wipe σ vs ++ (y ++ [some (.ref L)])) H5 B2 e2 ∧ Sub B B2 ∧ OutR F never (wipe σ vs) (wipe σ vs ++ (y ++ [some (.ref L)])) B2 (noEx (compM t vs tst elt (ds.drop (i + 1)) e2)) k := fun {H5 B5 e5} S5 b5 {e6} w6 o6 => by
        unfold wipeC at w6
        cases hm : noMu vs e5 with
        | false => rw [hm] at w6; cases w6
        | true =>
          rw [hm] at w6
          cases w6
          exact ⟨B5, _, S5.wipe (by simp [wn, n3]) offz hm, (b2.trans al.subB).trans b5, OutR.sub (al.subB.trans b5) o6⟩
      refine ⟨w3, B3, e3, _, n3, S3, ?_⟩
      cases ht : tst e3 with
      | bad =>
        have o2 : OutR F never (wipe σ vs) (wipe σ vs ++ (y ++ [some (.ref L)])) B2 (noEx (bd (tst e3) _)) k := o2
        rw [ht] at o2; exact o2.elim
      | exn x1 e4 =>
        have o2 : OutR F never (wipe σ vs) (wipe σ vs ++ (y ++ [some (.ref L)])) B2 (noEx (bd (tst e3) _)) k := o2
        rw [ht] at o2; exact o2.elim
      | ok b e4 =>
        have o2 : OutR F never (wipe σ vs) (wipe σ vs ++ (y ++ [some (.ref L)])) B2 (noEx (bd (tst e3) _)) k := o2
        rw [ht, bd_ok] at o2
        intro H4 B4 S4 b4
        cases b with
        | false =>
          rw [if_neg Bool.false_ne_true]
          rw [if_neg Bool.false_ne_true] at o2
          cases w6 : wipeC vs e4 with
          | none => rw [w6] at o2; exact o2.elim
          | some e6 => rw [w6] at o2; exact next S4 b4 w6 o2
        | true =>
          rw [if_pos rfl]
          rw [if_pos rfl] at o2
          refine ⟨B4, e4, _, n3, S4, ?_⟩
          cases he : elt e4 with
          | bad => rw [he] at o2; exact o2.elim
          | exn x1 e5 => rw [he] at o2; exact o2.elim
          | ok s e5 =>
            rw [he, bd_ok] at o2
            intro H5 B5 S5 b5 v rv
            cases ha : accE s.d e5 with
            | none => rw [ha] at o2; exact o2.elim
            | some e6 =>
              rw [ha] at o2
              have o2 : OutR F never (wipe σ vs) (wipe σ vs ++ (y ++ [some (.ref L)])) B2 (noEx (match wipeC vs e6 with | some e5 => compM t vs tst elt (ds.drop (i + 1)) e5 | none => .bad)) k := o2
              unfold accE at ha
              split at ha
              · rename_i acc hg
                by_cases hz : acc.length < sizeLine
                · rw [if_pos hz] at ha
                  cases ha
                  have es := last_split hg
                  have zl : (σ3 ++ y).length = e5.dropLast.length := by
                    have := S5.len
                    rw [es] at this
                    simp at this
                    simp
                    omega
                  have za : σ3 ++ (y ++ [some (V.ref L)]) = (σ3 ++ y) ++ [some (V.ref L)] := by simp
                  have ge : e5[e5.dropLast.length]? = some (some (.ow (.lst acc))) := by
                    rw [es]; simp
                  have gz : (σ3 ++ (y ++ [some (V.ref L)]))[e5.dropLast.length]? = some (some (.ref L)) := by
                    rw [za, ← zl]; exact app_last
                  obtain ⟨p, g1, g2, g3⟩ := (S5.sl _ _ ge).own rfl
                  rw [gz] at g1; cases g1
                  obtain ⟨xs, g4, g5⟩ := g3
                  refine ⟨xs, g4, by rw [g5.length]; exact hz, ?_⟩
                  have S6 := S5.call (H' := upd H5 L (.lst (xs ++ [v]))) (B' := B5) (d' := .lst (acc ++ [s.d])) ge rfl gz (.refl _) (fun a o q => by
                    rw [upd_ne (fun w => by rw [w, g2] at q; cases q)]; exact S5.sub a o q) (fun _ _ => rfl) (fun a o q hne => by rw [upd_ne hne]; exact q) ⟨_, upd_same, g5.append (.cons rv .nil)⟩
                  have e6 : e5.set e5.dropLast.length (some (.ow (.lst (acc ++ [s.d])))) = e5.dropLast ++ [some (.ow (.lst (acc ++ [s.d])))] := by
                    conv => lhs; rw [es]
                    simp
                  have S6 : SR F (σ3 ++ (y ++ [some (V.ref L)])) (upd H5 L (.lst (xs ++ [v]))) B5 (e5.set e5.dropLast.length (some (.ow (.lst (acc ++ [s.d]))))) := S6
                  rw [e6] at S6
                  cases w6 : wipeC vs (e5.dropLast ++ [some (.ow (.lst (acc ++ [s.d])))]) with
                  | none => rw [w6] at o2; exact o2.elim
                  | some e7 => rw [w6] at o2; exact next S6 (b4.trans b5) w6 o2
                · rw [if_neg hz] at ha; cases ha
              · cases ha
  · rintro H1 ⟨B2, e2, S2, b2, o2⟩
    rw [List.drop_length] at o2
    exact hd H1 B2 e2 S2 b2 (o2 H1 B2 S2 (.refl _))
theorem lc_red {src : M (List D)} {t : Tg} {vs : List Nat} {tst : M Bool} {elt : M Sl} {σ : St} {H : Hp} {Q : VK} (hv : ∀ i ∈ t.ix, i ∈ vs) (hvn : ∀ i ∈ vs, i < F.n) (h : tE F W (eComp src t vs tst elt) σ H Q) : tLc (tI F W src) (gT F t) (tT F never tst) (tV F never elt) vs σ H Q := by
  obtain ⟨B, e, y, n, S, o⟩ := h
  refine ⟨B, e, y, n, S, (OutR.bd o).mono fun ds e1 H1 B1 S1 b1 k J ir L hL => ?_⟩
  cases hm : noMu vs e1 with
  | false => simp only [hm] at k; exact k.elim
  | true =>
    simp only [hm, if_true] at k
    have al : Al H1 B1 (upd H1 L (.lst [])) B1 := ⟨.upd hL, .refl _, S1.sub.trans (.upd hL), fun _ _ => rfl⟩
    have S2 := S1.al al
    have wn : (wipe σ vs).length = F.n := by rw [wipe_len]; exact n
    have offz : ∀ (j : Nat), j ∉ vs → (wipe σ vs ++ y)[j]? = (σ ++ y)[j]? := fun j hj => by
      by_cases hl : j < F.n
      · rw [List.getElem?_append_left (by rw [wn]; exact hl), List.getElem?_append_left (by rw [n]; exact hl)]
        exact wipe_get hj
      · exact (off_right (by omega) wn).trans (off_right (by omega) n).symm
    have S3 := S2.wipe (z' := wipe σ vs ++ y) (by simp [wn, n]) offz hm
    have fr : FreshAt F (wipe σ vs ++ y) (wipeE e1 vs) (upd H1 L (.lst [])) B1 L (.lst []) := ⟨S1.sub.none hL, S1.new0 hL, ⟨[], upd_same, .nil⟩, fun j s q o' w => by
      obtain ⟨q, hj⟩ := wipeE_some q
      rw [offz j hj] at w
      obtain ⟨p', z1, _, z3⟩ := (S1.sl j s q).own o'
      rw [w] at z1; cases z1
      exact z3.ne hL⟩
    have S4 := S3.push (s := .ow (.lst [])) (v := .ref L) ⟨L, rfl, fr⟩
    rw [List.append_assoc] at S4
    refine comp_run (k := fun _ e2 H2 B2 => ∀ (H' : Hp), H' = H2 → Q (.ref L) H') hv hvn n S4 ir ?_ fun H' B' e' S' b' q => q H' rfl
    cases hc : noEx (compM t vs tst elt ds (wipeE e1 vs ++ [some (.ow (.lst []))])) with
    | bad => rw [hc] at k; exact k.elim
    | exn x e2 => 
      unfold noEx at hc
      split at hc <;> cases hc
    | ok u e2 =>
      rw [hc, bd_ok] at k
      rintro H5 B5 S5 b5 H' rfl
      cases hp : popL e2 with
      | none => rw [hp] at k; exact k.elim
      | some pr =>
        obtain ⟨acc, e3⟩ := pr
        rw [hp] at k
        have k : OutR F W σ (σ ++ y) B1 (if noMu vs e3 then .ok (.ow (.lst acc)) (restE e1 e3 vs) else .bad) (fun s e' H' B' => ∀ v, SlV F (σ ++ y) e' H' B' s v → Q v H') := k
        unfold popL at hp
        split at hp
        · rename_i acc' hg
          cases hp
          have es := last_split hg
          rw [es, ← List.append_assoc] at S5
          obtain ⟨S6, hv6⟩ := S5.pop rfl
          cases hm3 : noMu vs e2.dropLast with
          | false => simp only [hm3] at k; exact k.elim
          | true =>
            simp only [hm3, if_true] at k
            have S7 := S6.rest S1 b5 (by simp [wn, n]) (fun i h => (offz i h).symm) hm3
            refine k H' B5 S7 b5 (.ref L) ?_
            obtain ⟨p, e0, fr6⟩ := hv6
            cases e0
            refine ⟨L, rfl, fr6.nB, fr6.n0, fr6.own, fun j s q o' w => ?_⟩
            by_cases hj : j ∈ vs
            · obtain ⟨_, d, rfl⟩ := restE_in hj q
              cases o'
            · rw [restE_out hj] at q
              rw [← offz j hj] at w
              exact fr6.ns j s q o' w
        · cases hp
theorem de_comp {src : M (List D)} {t : Tg} {tst : M Bool} {elt : M Sl} {ee tg it : Expr} {ifs : List Expr} {scope : Scope} {own : List (Str × Nat)} {pos : Pos} (hc : X.calm = true) (hN : X.N.Nodup) (hi : PI X tg it (tI F W src)) (ok : BlkOk X.N X.env.scope scope own)
    (hg : ∀ (s : Shared) (H : Hp) (C : Addr) (cl : List (Str × Addr)) (fp : List Addr), PG (X.blk s H scope (compEnvC scope cl C X.env) fp) tg (gT F t)) (ht : ∀ (s : Shared) (H : Hp) (C : Addr) (cl : List (Str × Addr)) (fp : List Addr), PTs (X.blk s H scope (compEnvC scope cl C X.env) fp) ifs (tT F never tst))
    (he : ∀ (s : Shared) (H : Hp) (C : Addr) (cl : List (Str × Addr)) (fp : List Addr), PE (X.blk s H scope (compEnvC scope cl C X.env) fp) ee (tV F never elt)) (hs : ∀ x, foldedSetIterable it X.env x = pure x) (hv : ∀ i ∈ t.ix, i ∈ own.map (·.2)) (hvn : ∀ i ∈ own.map (·.2), i < F.n) :
    PE X (.ListComp ee [⟨tg, it, ifs, 0⟩] scope pos) (tE F W (eComp src t (own.map (·.2)) tst elt)) :=
  (pe_lc hc hN hi ok hg ht he hs).imp fun σ H Q q => lc_red hv hvn q
theorem ds_comp {i : Nat} {x : Str} {px : Pos} {src : M (List D)} {t : Tg} {tst : M Bool} {elt : M Sl} {ee tg it : Expr} {ifs : List Expr} {scope : Scope} {own : List (Str × Nat)} {pos spos : Pos} (hc : X.calm = true) (hN : X.N.Nodup) (hx : X.N[i]? = some x) (hxl : X.env.scope.names.lookup x = some .local)
    (hsw : swapsWith (.ListComp ee [⟨tg, it, ifs, 0⟩] scope pos) (some (.Name x px)) spos.line X.env = pure true) (hi : PI X tg it (tI F W src)) (ok : BlkOk X.N X.env.scope scope own)
    (hg : ∀ (s : Shared) (H : Hp) (C : Addr) (cl : List (Str × Addr)) (fp : List Addr), PG (X.blk s H scope (compEnvC scope cl C X.env) fp) tg (gT F t)) (ht : ∀ (s : Shared) (H : Hp) (C : Addr) (cl : List (Str × Addr)) (fp : List Addr), PTs (X.blk s H scope (compEnvC scope cl C X.env) fp) ifs (tT F never tst))
    (he : ∀ (s : Shared) (H : Hp) (C : Addr) (cl : List (Str × Addr)) (fp : List Addr), PE (X.blk s H scope (compEnvC scope cl C X.env) fp) ee (tV F never elt)) (hs : ∀ x, foldedSetIterable it X.env x = pure x) (hv : ∀ i ∈ t.ix, i ∈ own.map (·.2)) (hvn : ∀ i ∈ own.map (·.2), i < F.n) :
    PS X (.Assign [.Name x px] (.ListComp ee [⟨tg, it, ifs, 0⟩] scope pos) spos) (tS F W (sAsg i (eComp src t (own.map (·.2)) tst elt))) :=
  (ps_setLc hc hN hx hxl hsw hi ok hg ht he hs).imp fun D σ H ⟨B, e, n, S, o⟩ => lc_red hv hvn (tS.run n S o fun s e' H' B' v S' s' k hv => setE_ok n S' hv k)
theorem dts_nil : PTs X [] (tT F W tYesM) := ⟨fun pins s σ H Q I h => pts_nil.run pins s σ H Q I (by obtain ⟨B, e, y, n, S, o⟩ := h; exact o H B S (.refl _))⟩
theorem dts_one {c : Expr} {f : M Bool} (h : PT X c (tT F W f)) : PTs X [c] (tT F W f) := pts_one h
end
end DL

end
section
set_option maxRecDepth 100000
set_option maxHeartbeats 2000000
/-! DL7: what a def promises of data; calls; a def's body. -/
namespace DL
open PySem PySem.Spec PyProof.Rows L2

/-- what a def gives: its result, what stands now in the parameter that it may change -/
inductive RF where
  | ok (r : Sl) (out : D) | exn (x : Ex) | bad
/-- mi: the parameter that may be changed -/
structure ArgR (K : PySem.W.Frag) (H B : Hp) (mi : Option Nat) (vs : List V) (ds : List D) : Prop where
  len : vs.length = ds.length
  sh : ∀ (i : Nat) (v : V) (d : D), mi ≠ some i → vs[i]? = some v → ds[i]? = some d → Rep K B v d
  mu : ∀ (i : Nat) (d : D), mi = some i → ds[i]? = some d → ∃ p, vs[i]? = some (.ref p) ∧ B p = none ∧ Own K H B p d
  there : ∀ i, mi = some i → i < ds.length
/-- the place that may be changed -/
def Mp (mi : Option Nat) (vs : List V) (p : Addr) : Prop := ∃ i, mi = some i ∧ vs[i]? = some (.ref p)
structure RetR (K : PySem.W.Frag) (H B : Hp) (mi : Option Nat) (vs : List V) (H' B' : Hp) (r : Sl) (out : D) (v : V) : Prop where
  sb : Sub B B'
  sb' : Sub B' H'
  nw : ∀ a, Ch H a → B' a = B a
  kp : ∀ a o, H a = some o → ¬ Mp mi vs a → H' a = some o
  mu : ∀ p, Mp mi vs p → Own K H' B' p out
  rs : match r with
    | .sh d => Rep K B' v d
    | .ow d => ∃ p, v = .ref p ∧ H p = none ∧ B' p = none ∧ Own K H' B' p d
    | .mu _ => False
/-- the promise of a def of n parameters that gives m -/
def spM (K : PySem.W.Frag) (mg : Str → Option Value) (n : Nat) (mi : Option Nat) (m : List D → RF) : Sp := fun vs H Q E =>
  vs.length = n ∧ ∃ B ds, Sub B H ∧ ArgR K H B mi vs ds ∧ match m ds with
    | .ok r out => ∀ H' B' v, RetR K H B mi vs H' B' r out v → Q v H'
    | .exn x => mi = none ∧ ∀ cls dd H' B' F, F.K = K → F.mg = mg → Sub B B' → Sub B' H' → Sub H H' → (∀ a, Ch H a → B' a = B a) → ExR F H' B' x cls dd → E cls dd H'
    | .bad => False

/-! ### calls -/
def okOps (mi : Option Nat) : Nat → List Opd → Bool
  | _, [] => true
  | j, .val _ :: os => decide (mi ≠ some j) && okOps mi (j + 1) os
  | j, .bor _ :: os => decide (mi = some j) && okOps mi (j + 1) os
def outE (i : Nat) (out : D) (e : Ev) : Option Ev := match e[i]? with
  | some (some s) => if s.isOwn then some (e.set i (some (s.wd out))) else none
  | _ => none
def okS (r : Sl) (e : Ev) : R Sl := match r with
  | .mu _ => .bad
  | r => .ok r e
def eCall (mi : Option Nat) (m : List D → RF) (os : List Opd) : M Sl := fun e => bd (opsM os e) fun ds e' => match m ds with
  | .ok r out => (match mi with
    | none => okS r e'
    | some j => (match os[j]? with
      | some (.bor i) => (match outE i out e' with
        | some e2 => okS r e2
        | none => .bad)
      | _ => .bad))
  | .exn x => if mi = none then .exn x e' else .bad
  | .bad => .bad
section
variable {X : Cx} {F : Fr} {W : WX}
theorem OpsR.length {z : St} {B : Hp} {e : Ev} : ∀ {os : List Opd} {vs : List V} {ds : List D}, OpsR F z B e os vs ds → vs.length = os.length ∧ ds.length = os.length
  | _, _, _, .nil => ⟨rfl, rfl⟩
  | _, _, _, .val _ h => by have := h.length; simp [this.1, this.2]
  | _, _, _, .bor _ _ h => by have := h.length; simp [this.1, this.2]
theorem okOps_val {mi : Option Nat} {z : St} {B : Hp} {e : Ev} : ∀ {os : List Opd} {j : Nat} {vs : List V} {ds : List D}, okOps mi j os = true → OpsR F z B e os vs ds → ∀ (i : Nat) (v : V) (d : D), mi ≠ some (j + i) → vs[i]? = some v → ds[i]? = some d → Rep F.K B v d
  | _, j, _, _, h, .val r t, 0, v, d, ne, e1, e2 => by cases e1; cases e2; exact r
  | _, j, _, _, h, .val r t, i + 1, v, d, ne, e1, e2 => by
    have h' : okOps mi (j + 1) _ = true := (Bool.and_eq_true_iff.mp h).2
    exact okOps_val h' t i v d (by rw [Nat.add_assoc, Nat.add_comm 1 i]; exact ne) (by simpa using e1) (by simpa using e2)
  | _, j, _, _, h, .bor _ _ t, 0, v, d, ne, e1, e2 => absurd (of_decide_eq_true (Bool.and_eq_true_iff.mp h).1) ne
  | _, j, _, _, h, .bor _ _ t, i + 1, v, d, ne, e1, e2 => by
    have h' : okOps mi (j + 1) _ = true := (Bool.and_eq_true_iff.mp h).2
    exact okOps_val h' t i v d (by rw [Nat.add_assoc, Nat.add_comm 1 i]; exact ne) (by simpa using e1) (by simpa using e2)
theorem okOps_bor {mi : Option Nat} {z : St} {B : Hp} {e : Ev} : ∀ {os : List Opd} {j : Nat} {vs : List V} {ds : List D} {i : Nat}, okOps mi j os = true → OpsR F z B e os vs ds → mi = some (j + i) → i < os.length → ∃ k v s, os[i]? = some (.bor k) ∧ vs[i]? = some v ∧ ds[i]? = some s.d ∧ z[k]? = some (some v) ∧ e[k]? = some (some s)
  | _, j, _, _, 0, h, .val r t, em, _ => absurd em (of_decide_eq_true (Bool.and_eq_true_iff.mp h).1)
  | _, j, _, _, i + 1, h, .val r t, em, l => by
    have h' : okOps mi (j + 1) _ = true := (Bool.and_eq_true_iff.mp h).2
    obtain ⟨k, v, s, a, b, c, d⟩ := okOps_bor (i := i) h' t (by rw [em, Nat.add_assoc, Nat.add_comm 1 i]) (by simpa using l)
    exact ⟨k, v, s, by simpa using a, by simpa using b, by simpa using c, d⟩
  | _, j, _, _, 0, h, .bor z1 z2 t, em, _ => ⟨_, _, _, rfl, rfl, rfl, z1, z2⟩
  | _, j, _, _, i + 1, h, .bor z1 z2 t, em, l => by
    have h' : okOps mi (j + 1) _ = true := (Bool.and_eq_true_iff.mp h).2
    obtain ⟨k, v, s, a, b, c, d⟩ := okOps_bor (i := i) h' t (by rw [em, Nat.add_assoc, Nat.add_comm 1 i]) (by simpa using l)
    exact ⟨k, v, s, by simpa using a, by simpa using b, by simpa using c, d⟩
/-- the reading of a call of such a def -/
theorem eCall_run {mi : Option Nat} {m : List D → RF} {os : List Opd} {σ : St} {H : Hp} {Q : VK} (hb : bors F.n os = true) (ho : okOps mi 0 os = true) (hl : ∀ j, mi = some j → j < os.length) (h : tE F W (eCall mi m os) σ H Q) :
    chain F W os σ H (fun vs H1 => spM F.K F.mg os.length mi m vs H1 Q (WE W σ)) := by
  obtain ⟨B, e, y, n, S, o⟩ := h
  refine ops_run os hb n S (OutR.bd o) fun ds e1 H1 B1 vs S1 b1 o1 r1 => ?_
  have len := r1.length
  refine ⟨len.1, B1, ds, S1.sub, ⟨by rw [len.1, len.2], fun i v d ne h1 h2 => okOps_val ho r1 i v d (by rw [Nat.zero_add]; exact ne) h1 h2, fun i d em h2 => ?_, fun i em => by rw [len.2]; exact hl i em⟩, ?_⟩
  · have il : i < os.length := by rw [← len.2]; exact (List.getElem?_eq_some_iff.mp h2).1
    obtain ⟨k, v, s, g1, g2, g3, g4, g5⟩ := okOps_bor (i := i) ho r1 (by rw [Nat.zero_add]; exact em) il
    have hds : d = s.d := by rw [h2] at g3; exact Option.some.inj g3
    have ow : s.isOwn = true := by
      cases hm : m ds with
      | bad => rw [hm] at o1; exact o1.elim
      | exn x => rw [hm, em] at o1; simp at o1; exact o1.elim
      | ok r out =>
        rw [hm, em] at o1
        simp only [g1] at o1
        cases ho2 : outE k out e1 with
        | none => rw [ho2] at o1; exact o1.elim
        | some e2 =>
          unfold outE at ho2
          rw [g5] at ho2
          cases hs : s.isOwn with
          | true => rfl
          | false => simp [hs] at ho2
    obtain ⟨p, q1, q2, q3⟩ := (S1.sl _ _ g5).own ow
    rw [g4] at q1
    cases q1
    exact ⟨p, g2, q2, by rw [hds]; exact q3⟩
  · cases hm : m ds with
    | bad => rw [hm] at o1; exact o1.elim
    | exn x =>
      rw [hm] at o1
      by_cases em : mi = none
      · refine ⟨em, fun cls dd H' B' F' eK eM sb sb' sm nw er => ?_⟩
        simp only [em, if_true] at o1
        exact o1 cls dd y H' B' (S1.al ⟨sm, sb, sb', nw⟩) sb (by
          obtain ⟨⟨C, c1, c2⟩, c3⟩ := er
          refine ⟨⟨C, by rw [← eM]; exact c1, c2⟩, ?_⟩
          rw [← eK]; exact c3)
      · simp only [em, if_false] at o1
        exact o1.elim
    | ok r out =>
      intro H' B' v rr
      rw [hm] at o1
      have fin : ∀ e2, SR F (σ ++ y) H' B' e2 → OutR F W σ (σ ++ y) B1 (okS r e2) (fun s e' H' B' => ∀ v, SlV F (σ ++ y) e' H' B' s v → Q v H') → (∀ (j : Nat) (s : Sl), e2[j]? = some (some s) → s.isOwn = true → ∃ s', e1[j]? = some (some s') ∧ s'.isOwn = true) → Q v H' := by
        intro e2 S2 o2 sm
        cases r with
        | sh d => exact o2 H' B' S2 rr.sb v rr.rs
        | ow d =>
          obtain ⟨p, rfl, h1, h2, h3⟩ := rr.rs
          refine o2 H' B' S2 rr.sb (.ref p) ⟨p, rfl, h2, S1.new0 h1, h3, fun j s q o' w => ?_⟩
          obtain ⟨s', q', o''⟩ := sm j s q o'
          obtain ⟨p', z1, _, z3⟩ := (S1.sl j s' q').own o''
          rw [w] at z1; cases z1
          exact z3.ne h1
        | mu d => exact rr.rs.elim
      cases mi with
      | none =>
        have al : Al H1 B1 H' B' := ⟨(fun a o q => rr.kp a o q (fun ⟨i, hi, _⟩ => (by cases hi))), rr.sb, rr.sb', rr.nw⟩
        exact fin e1 (S1.al al) o1 fun j s q o' => ⟨s, q, o'⟩
      | some j =>
        obtain ⟨k, v1, s, g1, g2, g3, g4, g5⟩ := okOps_bor (i := j) ho r1 (by rw [Nat.zero_add]) (hl j rfl)
        simp only [g1] at o1
        unfold outE at o1
        simp only [g5] at o1
        cases hs : s.isOwn with
        | false => simp only [hs] at o1; exact o1.elim
        | true =>
          simp only [hs, if_true] at o1
          obtain ⟨p, q1, q2, q3⟩ := (S1.sl _ _ g5).own hs
          rw [g4] at q1
          cases q1
          have mp : ∀ a, Mp (some j) vs a → a = p := fun a ⟨i, hi, ha⟩ => by cases hi; rw [g2] at ha; cases ha; rfl
          refine fin _ (S1.call g5 hs g4 rr.sb rr.sb' rr.nw (fun a o q ne => rr.kp a o q fun w => ne (mp a w)) (rr.mu p ⟨j, rfl, g2⟩)) o1 fun j' s' q o' => ?_
          by_cases hj : j' = k
          · subst hj
            exact ⟨s, g5, hs⟩
          · rw [List.getElem?_set_ne (Ne.symm hj)] at q
            exact ⟨s', q, o'⟩
/-- f(e, ..) -/
theorem de_call {mi : Option Nat} {m : List D → RF} {os : List Opd} {ex : Expr} (hK : F.K = X.K) (hM : F.mg = X.mg) (hb : bors F.n os = true) (ho : okOps mi 0 os = true) (hl : ∀ j, mi = some j → j < os.length)
    (h : PE X ex (tCallS (spM X.K X.mg os.length mi m) (WE W) (chain F W os))) : PE X ex (tE F W (eCall mi m os)) :=
  h.imp fun σ H Q q => by
    have z := eCall_run hb ho hl q
    rw [hK, hM] at z
    exact z
end

/-! ### a def's body -/
def start0 (mi : Option Nat) (n : Nat) (ds : List D) : Ev := (ds.mapIdx fun i d => some (if mi = some i then Sl.mu d else Sl.sh d)) ++ List.replicate (n - ds.length) none
def outOf (mi : Option Nat) (e : Ev) : D := match mi with
  | none => .non
  | some i => (match e[i]? with
    | some (some s) => s.d
    | _ => .non)
/-- what a def with this body gives -/
def bodyM (mi : Option Nat) (n : Nat) (f : M Fl) : List D → RF := fun ds => match f (start0 mi n ds) with
  | .ok .nx e => .ok (.sh .non) (outOf mi e)
  | .ok (.rt s) e => .ok s (outOf mi e)
  | .exn x _ => if mi = none then .exn x else .bad
  | _ => .bad
section
variable {P : Program} {w : World} {K : PySem.W.Frag} {mg : Str → Option Value} {base : Heap}
def mpOf (mi : Option Nat) (vs : List V) : List (Nat × Addr) := match mi with
  | none => []
  | some i => (match vs[i]? with
    | some (.ref p) => [(i, p)]
    | _ => [])
theorem mpOf_mem {mi : Option Nat} {vs : List V} {i : Nat} {p : Addr} : (i, p) ∈ mpOf mi vs ↔ mi = some i ∧ vs[i]? = some (.ref p) := by
  unfold mpOf
  cases mi with
  | none => simp
  | some j =>
    simp only [Option.some.injEq]
    split
    · rename_i q hq
      simp only [List.mem_singleton, Prod.mk.injEq]
      constructor
      · rintro ⟨rfl, rfl⟩; exact ⟨rfl, hq⟩
      · rintro ⟨rfl, h⟩; rw [hq] at h; cases h; exact ⟨rfl, rfl⟩
    · rename_i hq
      simp only [List.not_mem_nil, false_iff, not_and]
      rintro rfl h
      exact hq p h
theorem start_get {N : List Str} {vs : List V} {i : Nat} {v : V} (h : vs[i]? = some v) : (L2.start N vs)[i]? = some (some v) := by
  unfold L2.start
  have il : i < vs.length := (List.getElem?_eq_some_iff.mp h).1
  rw [List.getElem?_append_left (by rw [List.length_map]; exact il), List.getElem?_map, h]
  rfl
theorem start0_get {mi : Option Nat} {n i : Nat} {ds : List D} {s : Sl} (h : (start0 mi n ds)[i]? = some (some s)) : ∃ d, ds[i]? = some d ∧ s = (if mi = some i then Sl.mu d else Sl.sh d) := by
  unfold start0 at h
  by_cases il : i < ds.length
  · rw [List.getElem?_append_left (by simpa using il), List.getElem?_mapIdx] at h
    cases hd : ds[i]? with
    | none => rw [hd] at h; cases h
    | some d => rw [hd] at h; cases h; exact ⟨d, rfl, rfl⟩
  · rw [List.getElem?_append_right (by simpa using il), List.getElem?_replicate] at h
    split at h <;> cases h
theorem start0_at {mi : Option Nat} {n i : Nat} {ds : List D} {d : D} (h : ds[i]? = some d) : (start0 mi n ds)[i]? = some (some (if mi = some i then Sl.mu d else Sl.sh d)) := by
  unfold start0
  have il : i < ds.length := (List.getElem?_eq_some_iff.mp h).1
  rw [List.getElem?_append_left (by simpa using il), List.getElem?_mapIdx, h]
  rfl
theorem start_sr {N : List Str} {H B : Hp} {mi : Option Nat} {vs : List V} {ds : List D} (sb : Sub B H) (ar : ArgR K H B mi vs ds) (hn : vs.length ≤ N.length) :
    SR ⟨N.length, K, mg, H, B, mpOf mi vs⟩ (L2.start N vs) H B (start0 mi N.length ds) := by
  refine ⟨sb, sb, fun _ _ q _ => q, fun _ _ => rfl, ?_, fun i s q => ?_, fun i j s s' p hij q1 q2 o1 o2 w w' => ?_, fun i p q => ?_⟩
  · unfold L2.start start0
    have := ar.len
    simp
    omega
  · obtain ⟨d, hd, rfl⟩ := start0_get q
    have il : i < vs.length := by rw [ar.len]; exact (List.getElem?_eq_some_iff.mp hd).1
    by_cases em : mi = some i
    · rw [if_pos em]
      obtain ⟨p, h1, h2, h3⟩ := ar.mu i d em hd
      exact ⟨p, start_get h1, h2, mpOf_mem.mpr ⟨em, h1⟩, h3⟩
    · rw [if_neg em]
      have h1 : vs[i]? = some vs[i] := by simp [il]
      exact ⟨_, start_get h1, ar.sh i _ d em h1 hd⟩
  · obtain ⟨d, hd, rfl⟩ := start0_get q1
    obtain ⟨d', hd', rfl⟩ := start0_get q2
    by_cases em : mi = some i
    · by_cases em' : mi = some j
      · rw [em] at em'; exact hij (Option.some.inj em')
      · rw [if_neg em'] at o2; cases o2
    · rw [if_neg em] at o1; cases o1
  · obtain ⟨em, hp⟩ := mpOf_mem.mp q
    have il : i < ds.length := ar.there i em
    have h1 : ds[i]? = some ds[i] := by simp [il]
    exact ⟨ds[i], by rw [start0_at h1, if_pos em], start_get hp⟩
/-- THE DEF: its body computes f, so it promises bodyM f -/
theorem body_ok {qual : Str} {scope : Scope} {body : List Stmt} {f : Addr} {cdv : Value} {N ps : List Str} {mi : Option Nat} {g : M Fl} {A : Around} {outer : List Env} {s : Shared} {H : Hp} {vs : List V} {Q : VK} {E : XK} (hn : ps.length ≤ N.length)
    (hbody : ∀ (H0 B0 : Hp) (mp : List (Nat × Addr)), PSs (cxOf (L2.CX P w) P w K mg base N qual scope f cdv A outer s H E) body (tS ⟨N.length, K, mg, H0, B0, mp⟩ (fun cls d _ H => E cls d H) g))
    (h : spM K mg ps.length mi (bodyM mi N.length g) vs H Q E) :
    ∃ t, PSs (cxOf (L2.CX P w) P w K mg base N qual scope f cdv A outer s H E) body t ∧ t { nx := fun _ H' => Q .non H', rt := Q } (L2.start N vs) H := by
  obtain ⟨hl, B, ds, sb, ar, o⟩ := h
  refine ⟨_, hbody H B (mpOf mi vs), ?_⟩
  have S0 := start_sr (mg := mg) (N := N) sb ar (by rw [hl]; exact hn)
  have sl : (L2.start N vs).length = N.length := by rw [S0.len]; unfold start0; have := ar.len; simp; omega
  refine ⟨B, _, sl, S0, ?_⟩
  have hmp : ∀ a, a ∈ (mpOf mi vs).map (·.2) ↔ Mp mi vs a := fun a => by
    constructor
    · intro h
      obtain ⟨⟨i, p⟩, hm, rfl⟩ := List.mem_map.mp h
      obtain ⟨h1, h2⟩ := mpOf_mem.mp hm
      exact ⟨i, h1, h2⟩
    · rintro ⟨i, h1, h2⟩
      exact List.mem_map.mpr ⟨(i, a), mpOf_mem.mpr ⟨h1, h2⟩, rfl⟩
  have fin : ∀ {σ' : St} {H' B' : Hp} {e' : Ev} {r : Sl} {v : V}, SR ⟨N.length, K, mg, H, B, mpOf mi vs⟩ σ' H' B' e' → Sub B B' → (match r with
      | .sh d => Rep K B' v d
      | .ow d => ∃ p, v = .ref p ∧ H p = none ∧ B' p = none ∧ Own K H' B' p d
      | .mu _ => False) → RetR K H B mi vs H' B' r (outOf mi e') v := by
    intro σ' H' B' e' r v S' b' hr'
    refine ⟨b', S'.sub, S'.nwB, fun a o q m => S'.kept a o q fun z => m ((hmp a).mp z), fun p ⟨i, em, hp⟩ => ?_, hr'⟩
    obtain ⟨d, g1, g2⟩ := S'.mus i p (mpOf_mem.mpr ⟨em, hp⟩)
    obtain ⟨p', g3, _, _, g4⟩ := S'.sl i _ g1
    rw [g2] at g3
    cases g3
    have : outOf mi e' = d := by unfold outOf; rw [em]; simp only [g1]; rfl
    rw [this]
    exact g4
  unfold bodyM at o
  cases hg : g (start0 mi N.length ds) with
  | bad => rw [hg] at o; exact o.elim
  | exn x1 e' =>
    rw [hg] at o
    by_cases em : mi = none
    · simp only [em, if_true] at o
      refine fun cls dd σ' y H' B' n S' b' er => o.2 cls dd H' B' _ rfl rfl b' S'.sub (fun a u q => S'.kept a u q ?_) S'.nwB er
      show a ∉ (mpOf mi vs).map (·.2)
      rw [em]
      simp [mpOf]
    · simp only [em, if_false] at o
  | ok fl e' =>
    rw [hg] at o
    cases fl with
    | nx => exact fun σ' H' B' n S' b' => o H' B' .non (fin S' b' .non)
    | rt r =>
      refine fun σ' H' B' v n S' b' hv => o H' B' v (fin S' b' ?_)
      cases r with
      | sh d => exact hv
      | ow d => obtain ⟨p, rfl, fr⟩ := hv; exact ⟨p, rfl, fr.n0, fr.nB, fr.own⟩
      | mu d => exact hv.elim
    | bk => exact o.elim
    | ct => exact o.elim
/-- a def that may be called: as FnOk, where no repr is under way (what repr of a list asks) -/
structure FnG (P : Program) (w : World) (K : PySem.W.Frag) (mg : Str → Option Value) (base : Heap) (k : Nat) (f : Addr) (n : Nat) (sp : Sp) : Prop where
  len : ∀ vs H Q E, sp vs H Q E → vs.length = n
  run : ∀ (A : Around) (outer : List Env) (s : Shared) (H : Hp) (us : List Value) (vs : List V) (Q : VK) (E : XK), Room k A → A.guards = some [] → Env0 P w K mg base A outer s H → Vals vs us → sp vs H Q E →
    codeAny (model P w) A (.call (.ref f) ⟨us, []⟩) (CR (L2.CX P w) outer P w H s Q E) s
theorem FnG.mono {j k n : Nat} {f : Addr} {sp : Sp} (F : FnG P w K mg base j f n sp) (h : j ≤ k) : FnG P w K mg base k f n sp :=
  ⟨F.len, fun A outer s H us vs Q E hr => F.run A outer s H us vs Q E (hr.mono h)⟩
theorem def_ok {x qual : Str} {st : Stmt} {f : Addr} {fd : FuncData} {N ps : List Str} {k : Nat} {mi : Option Nat} {g : M Fl} (Fn : Fun K x qual st f fd) (S : FnScope N ps (defScope st)) (hn : ps.length ≤ N.length) (hb : Binds K fd ps [])
    (hbody : ∀ (cdv : Value) (A : Around) (outer : List Env) (s : Shared) (H : Hp) (E : XK) (H0 B0 : Hp) (mp : List (Nat × Addr)), Room k (A.deeper (envOfC qual (defScope st) s.heap.objs.size f cdv)) → A.guards = some [] →
      PSs (cxOf (L2.CX P w) P w K mg base N qual (defScope st) f cdv A outer s H E) (defBody st) (tS ⟨N.length, K, mg, H0, B0, mp⟩ (fun cls d _ H => E cls d H) g)) :
    FnG P w K mg base (k + 1) f ps.length (spM K mg ps.length mi (bodyM mi N.length g)) := by
  refine ⟨fun vs H Q E h => h.1, fun A outer s H us vs Q E room gd e0 rv hsp => ?_⟩
  obtain ⟨oc, od, kV, doc, pm, an, cdv, ct, osl, hfd, look, code⟩ := Fn.ex
  have hl : vs.length = ps.length := hsp.1
  have old : ∀ b o, base.get? b = some o → s.heap.get? b = some o := fun b o q => (e0.bs b o q).1
  have inK : K.In s.heap := e0.mod.kin.keeps old
  have bind := hb s us inK (by rw [List.append_nil, ← rv.length]; exact hl)
  rw [List.append_nil, hfd] at bind
  rw [hfd] at look
  have par : ∀ q ∈ ps.zip us, (defScope st).names.lookup q.1 = some .local ∨ ((defScope st).names.lookup q.1 = some .cell ∧ ((cellsFrom (s.heap.objs.size + 1) (defScope st).names []).lookup q.1).isSome = true) := by
    rintro ⟨nm, vv⟩ hq
    have := S.par nm (List.of_mem_zip hq).1
    exact this.imp id fun z => ⟨z, PySem.W.cellsFrom_some _ _ _ (.inl z)⟩
  refine codeAny_call_function room.depth (inK _ _ look) rfl S.co S.gen rfl (PySem.W.codeRec_of inK code) (bind _ _ _ _ ?_)
  refine wpAny_newFunctionEnv_cells S.kind par fun env he s1 ic => ?_
  subst he
  refine ⟨(e0.mod.nolimit.keeps old).keeps ic.toInCall.keep, codeAny_func ?_⟩
  obtain ⟨t, run, start⟩ := body_ok (mi := mi) hn (fun H0 B0 mp => hbody cdv A outer s H E H0 B0 mp (room.deeper _) gd) hsp
  have I0 := inv_start (CX := L2.CX P w) (E := E) (cd := cdv) (f := f) (qual := qual) (mg := mg) (base := base) (outer := outer) S room.hd e0 hl rv ic
  refine wpAny_mono (run.run [] s1 _ H _ I0 start) (fun fl s2 post => ?_) fun _ _ post => post
  cases fl with
  | ret u => obtain ⟨v, σ2, H2, J, r2, q⟩ := post; exact ⟨v, H2, J.os, J.bare, J.base, J.hok, r2, q⟩
  | next => obtain ⟨σ2, H2, J, q⟩ := post; exact ⟨.non, H2, J.os, J.bare, J.base, J.hok, rfl, q⟩
  | brk => obtain ⟨_, _, _, q⟩ := post; exact q.elim
  | cont => obtain ⟨_, _, _, q⟩ := post; exact q.elim
end
section
variable {X : Cx} {F : Fr} {W : WX}
theorem pe_callG {k n : Nat} {f : Addr} {sp : Sp} {x : Str} {p pos : Pos} {e : Expr} {es : List Expr} {t : TA} (G : FnG X.prog X.w X.K X.mg X.base k f n sp) (hr : Room k X.A) (hgd : X.A.guards = some []) (tk : Takes X W) (hg : Gl X x) (hm : X.mg x = some (.ref f)) (hk : PySem.W.keepIn X.K (.ref f) = true)
    (ha : PA X (e :: es) t) (hdb : (x == ("__debug__" : Str)) = false) (he : starEach (e :: es) X.env = (false, eval e X.env) :: starEach es X.env) (hpl : (backTo pos (starEach es X.env)).any (·.1) = false) :
    PE X (.Call (.Name x p) (e :: es) [] pos) (tCallS sp (WE W) t) := by
  refine ⟨fun pins s σ H Q I h => ?_⟩
  refine wpAny_Call_Name_kw (ld_glob I hg hm ?_ hdb)
  refine PySem.W.callWith_K (h₀ := X.base) I.ok.mod.kin hk (thn (ha.run pos pins s σ H _ I h) fun us s1 ⟨vs, H1, I1, rv, q⟩ => ⟨I1.kIn, ?_⟩) he hpl
  refine wpAny_call (codeAny_mono (G.run X.A X.stack s1 H1 us vs Q (WE W σ) hr hgd I1.env0 rv q) fun res s2 post => ?_)
  match res, post with
  | .error ev, post => exact passAt tk σ pins H1 s1 ev s2 I1 post
  | .ok (.ret u), post => exact I1.after post
  | .ok .next, post => exact post.elim
  | .ok .brk, post => exact post.elim
  | .ok .cont, post => exact post.elim
end
end DL

end
section
set_option maxRecDepth 100000
set_option maxHeartbeats 2000000
/-! DL8: the end: a law whose def computes True of every script. -/
namespace DL
open PySem PySem.Spec PyProof.Rows L2

/-- the heap of which nothing but the script at a is told -/
def scriptH (a : Addr) (ob : Obj) (xs : List V) (inK : Bool) : Hp := fun b => if b = a ∧ inK = false then some (.frz ob (.lst xs)) else none
theorem scriptH_some {a b : Addr} {ob : Obj} {xs : List V} {i : Bool} {u : HO} (h : scriptH a ob xs i b = some u) : b = a ∧ i = false ∧ u = .frz ob (.lst xs) := by
  unfold scriptH at h
  split at h
  · rename_i q; exact ⟨q.1, q.2, (Option.some.inj h).symm⟩
  · cases h
theorem int_reps {K : PySem.W.Frag} {B : Hp} (ns : List Int) : Reps K B (ns.map V.int) (ns.map D.int) := by
  induction ns with
  | nil => exact .nil
  | cons n ns ih => exact .cons (.int n) ih
theorem walk_G {l : PySem.W.OpenLaw} {n k : Nat} {q : Program} {loose : List Str} {XP : (Str → Option Value) → Heap → Prop} {YP : World → Heap → Prop} {d : DefRec} {K : Params → PySem.W.Frag} {m : List D → RF}
    (hn : l.most = some n) (hn2 : n ≤ sizeLine) (hdf : d.params.defaults = []) (room : Room k callerA) (hY : ∀ (w : World) (h : Heap), YP w h → (K w.params).In h)
    (F : ∀ (w : World) (mg : Str → Option Value) (fa : Addr) (h : Heap), (K w.params).In h → h.Ns mainGlobals mg → mg d.name = some (.ref fa) →
      ∀ base : Heap, (K w.params).In base → base.Ns mainGlobals mg → FnG l.prog w (K w.params) mg base k fa 1 (spM (K w.params) mg 1 none m))
    (hm : ∀ ns : List Int, ns.length ≤ n → ∃ o, m [.rol (ns.map D.int)] = .ok (.sh (.bl true)) o) :
    PySem.W.WalkO q loose XP YP l.row.toRowW d [] (fun f vs => PySem.call f vs) := by
  refine Att.attach_call hn hdf fun w s0 s1 mg mb fa o pm cd doc a vs ns G Y ho hd hcd hmg hobj hints hlen hgens => ?_
  have inK := hY w _ Y
  have lenV : vs.length = ns.length := hints.length
  have rv : Vals (ns.map V.int) vs := vals_ints hints
  have small : ns.length ≤ sizeLine := Nat.le_trans hlen hn2
  obtain ⟨ob, hob⟩ : ∃ ob : Obj, ob = { cls := .type "list", data := .seq vs.toArray } := ⟨_, rfl⟩
  rw [← hob] at hobj
  obtain ⟨H, hH⟩ : ∃ H : Hp, H = scriptH a ob (ns.map V.int) ((K w.params).lookup a).isSome := ⟨_, rfl⟩
  have only : ∀ b u, H b = some u → b = a ∧ (K w.params).lookup a = none ∧ u = .frz ob (.lst (ns.map V.int)) := fun b u e => by
    rw [hH] at e
    obtain ⟨e1, e2, e3⟩ := scriptH_some e
    exact ⟨e1, by simpa using e2, e3⟩
  have hok : HOk l.prog w H s1.heap := fun b u e => by
    obtain ⟨rfl, _, rfl⟩ := only b u e
    exact ⟨hobj, by rw [List.length_map]; exact small, vs, 0, rv, by rw [hobj, hob]⟩
  have free : ∀ {b : Addr} {o' : Obj}, s1.heap.get? b = some o' → (b = a → False) → H b = none := fun {b o'} e ne => by
    cases hb : H b with
    | none => rfl
    | some u => exact (ne (only b u hb).1).elim
  have dictFree : ∀ {b : Addr} {o' : Obj} {es : Array DictEntry} {ep : Nat}, s1.heap.get? b = some o' → o'.data = .dict es ep → H b = none := fun e dd => free e fun eb => by
    subst eb
    rw [hobj] at e; cases e
    rw [hob] at dd; cases dd
  have nsB : ∀ {b : Addr} {mm : Str → Option Value}, s1.heap.Ns b mm → (hidT s1.heap H).Ns b mm := fun ⟨o', es, ep, e, dd, r⟩ => ⟨o', es, ep, hidT_get e (dictFree e dd), dd, r⟩
  have inKB : (K w.params).In (hidT s1.heap H) := fun b o' e => hidT_get (inK b o' e) (by
    cases hb : H b with
    | none => rfl
    | some u =>
      obtain ⟨eb, ek, _⟩ := only b u hb
      rw [eb, ek] at e; cases e)
  obtain ⟨mc, lim1, lim2⟩ := G.T.nolimit
  have md : Mod (K w.params) mg (hidT s1.heap H) := ⟨inKB, nsB G.T.g, ⟨mb, nsB G.T.b, G.T.builtins⟩, ⟨mc, nsB lim1, lim2⟩⟩
  have e0 : Env0 l.prog w (K w.params) mg (hidT s1.heap H) callerA [] s1 H :=
    { frames := rfl, mod := md, bs := fun b o' e => of_hidT e, bsz := Nat.le_of_eq (hidT_size _ _), funs := trivial, frf := fun b hb => absurd (show b ∈ ([] : List Addr) from hb) (by simp), hok := hok, bare := .of_eq hgens }
  have sq : SqL (K w.params) H a (ns.map V.int) := by
    cases hk : (K w.params).lookup a with
    | none => exact .inl (.inr ⟨ob, by rw [hH]; unfold scriptH; rw [hk]; exact if_pos ⟨rfl, rfl⟩⟩)
    | some o' =>
      have e := inK a o' hk
      rw [hobj] at e; cases e
      exact .inr ⟨ob, vs.toArray, 0, hk, by rw [hob], by rw [hob], by rw [hob], by rw [List.size_toArray, lenV]; exact small, by simpa using rv⟩
  obtain ⟨out, hout⟩ := hm ns hlen
  have pre : spM (K w.params) mg 1 none m [.ref a] H (fun v _ => v = .bl true) (fun _ _ _ => False) := by
    refine ⟨rfl, H, [.rol (ns.map D.int)], .refl _, ⟨rfl, fun i v dd _ h1 h2 => ?_, (fun i dd e => by cases e), (fun i e => by cases e)⟩, ?_⟩
    · match i, h1, h2 with
      | 0, h1, h2 => cases h1; cases h2; exact .rol sq (int_reps ns)
    · rw [hout]
      intro H' B' v rr
      have := rr.rs
      cases this
      rfl
  refine codeAny_mono ((F w mg fa _ inK G.T.g hmg _ inKB (nsB G.T.g)).run callerA [] s1 H [.ref a] [.ref a] _ _ room rfl e0 (.cons rfl .nil) pre) fun res s2 post => ?_
  match res, post with
  | .error ev, post =>
    obtain ⟨_, _, _, _, _, _, _, _, _, _, _, _, z⟩ := post
    exact z.elim
  | .ok .next, post => exact post.elim
  | .ok .brk, post => exact post.elim
  | .ok .cont, post => exact post.elim
  | .ok (.ret u), post =>
    obtain ⟨v, H', os, bare, un, hok', r2, ev⟩ := post
    have ev : v = .bl true := ev
    subst ev
    obtain rfl : u = Value.bool true := r2
    refine ⟨rfl, OldK.of_keep fun b o' e => ?_, os, bare⟩
    cases hb : H b with
    | none => exact un.keep b o' e hb (fun z => absurd (show b ∈ ([] : List Addr) from z) (by simp)) (by simp)
    | some t =>
      obtain ⟨rfl, _, rfl⟩ := only b t hb
      rw [hobj] at e; cases e
      exact (hok' b _ (un.frzs b _ _ hb)).1
end DL

end
section
set_option maxRecDepth 100000
set_option maxHeartbeats 2000000
/-! DK1: dicts as data. -/
namespace DL
open PySem PySem.Spec PyProof.Rows L2

/-! ### keys -/
def keyD : D → Option Key
  | .int i => some (.inl i)
  | .str x => some (.inr x)
  | _ => none
def keysD : List D → Option (List Key)
  | [] => some []
  | d :: ds => (match keyD d, keysD ds with
    | some k, some ks => some (k :: ks)
    | _, _ => none)
/-! ### pairs -/
def lookG {κ α : Type} [DecidableEq κ] (k : κ) : List (κ × α) → Option α
  | [] => none
  | p :: ps => if p.1 = k then some p.2 else lookG k ps
def putG {κ α : Type} [DecidableEq κ] (ps : List (κ × α)) (k : κ) (v : α) : List (κ × α) :=
  if ps.any (fun p => decide (p.1 = k)) then ps.map (fun p => if p.1 = k then (p.1, v) else p) else ps ++ [(k, v)]
section
variable {κ : Type} {K : PySem.W.Frag} {B B' : Hp}
/-- the values of a dict are the data, key by key -/
inductive Prs (K : PySem.W.Frag) (B : Hp) : List (κ × V) → List (κ × D) → Prop
  | nil : Prs K B [] []
  | cons {k : κ} {v : V} {d : D} {xs : List (κ × V)} {ps : List (κ × D)} : Rep K B v d → Prs K B xs ps → Prs K B ((k, v) :: xs) ((k, d) :: ps)
theorem Prs.of : ∀ {xs : List (κ × V)} {ks : List κ} {vs : List D}, xs.map (·.1) = ks → Reps K B (xs.map (·.2)) vs → Prs K B xs (ks.zip vs)
  | [], _, _, e, r => by subst e; exact .nil
  | (k, v) :: xs, _, _, e, r => by
    subst e
    cases r with
    | cons a r => exact .cons a (Prs.of rfl r)
theorem Prs.keys : ∀ {xs : List (κ × V)} {ps : List (κ × D)}, Prs K B xs ps → xs.map (·.1) = ps.map (·.1)
  | _, _, .nil => rfl
  | _, _, .cons _ r => by rw [List.map_cons, List.map_cons, Prs.keys r]
theorem Prs.vals : ∀ {xs : List (κ × V)} {ps : List (κ × D)}, Prs K B xs ps → Reps K B (xs.map (·.2)) (ps.map (·.2))
  | _, _, .nil => .nil
  | _, _, .cons a r => .cons a (Prs.vals r)
theorem Prs.mono (s : Sub B B') : ∀ {xs : List (κ × V)} {ps : List (κ × D)}, Prs K B xs ps → Prs K B' xs ps
  | _, _, .nil => .nil
  | _, _, .cons a r => .cons (a.mono s) (Prs.mono s r)
theorem Prs.length : ∀ {xs : List (κ × V)} {ps : List (κ × D)}, Prs K B xs ps → xs.length = ps.length
  | _, _, .nil => rfl
  | _, _, .cons _ r => by rw [List.length_cons, List.length_cons, Prs.length r]
theorem Prs.app : ∀ {xs ys : List (κ × V)} {ps qs : List (κ × D)}, Prs K B xs ps → Prs K B ys qs → Prs K B (xs ++ ys) (ps ++ qs)
  | _, _, _, _, .nil, h => h
  | _, _, _, _, .cons a r, h => .cons a (Prs.app r h)
variable [DecidableEq κ]
theorem Prs.look (k : κ) : ∀ {xs : List (κ × V)} {ps : List (κ × D)}, Prs K B xs ps → (∀ d, lookG k ps = some d → ∃ v, valV xs k = some v ∧ Rep K B v d) ∧ (lookG k ps = none → valV xs k = none)
  | _, _, .nil => ⟨(fun _ h => by cases h), fun _ => rfl⟩
  | _, _, .cons (k := j) a r => by
    by_cases e : j = k
    · refine ⟨fun d h => ?_, fun h => ?_⟩
      · rw [lookG, if_pos e] at h; cases h; exact ⟨_, valV_pos e, a⟩
      · rw [lookG, if_pos e] at h; cases h
    · refine ⟨fun d h => ?_, fun h => ?_⟩
      · rw [lookG, if_neg e] at h
        obtain ⟨v, h1, h2⟩ := (Prs.look k r).1 d h
        exact ⟨v, by rw [valV_neg e]; exact h1, h2⟩
      · rw [lookG, if_neg e] at h
        rw [valV_neg e]; exact (Prs.look k r).2 h
theorem Prs.isSome (k : κ) {xs : List (κ × V)} {ps : List (κ × D)} (r : Prs K B xs ps) : (valV xs k).isSome = (lookG k ps).isSome := by
  cases h : lookG k ps with
  | none => rw [(r.look k).2 h]; rfl
  | some d => obtain ⟨v, e, _⟩ := (r.look k).1 d h; rw [e]; rfl
theorem Prs.any (k : κ) : ∀ {xs : List (κ × V)} {ps : List (κ × D)}, Prs K B xs ps → xs.any (fun p => decide (p.1 = k)) = ps.any (fun p => decide (p.1 = k))
  | _, _, .nil => rfl
  | _, _, .cons a r => by rw [List.any_cons, List.any_cons, Prs.any k r]
theorem Prs.put (k : κ) {v : V} {d : D} (hv : Rep K B v d) {xs : List (κ × V)} {ps : List (κ × D)} (r : Prs K B xs ps) : Prs K B (putK xs k v) (putG ps k d) := by
  unfold putK putG
  rw [r.any k]
  split
  · have go : ∀ {xs : List (κ × V)} {ps : List (κ × D)}, Prs K B xs ps → Prs K B (xs.map fun kv => if kv.1 = k then (kv.1, v) else kv) (ps.map fun p => if p.1 = k then (p.1, d) else p) := by
      intro xs ps r
      induction r with
      | nil => exact .nil
      | @cons j w e xs ps a r ih =>
        rw [List.map_cons, List.map_cons]
        by_cases q : j = k
        · rw [if_pos q, if_pos q]; exact .cons hv ih
        · rw [if_neg q, if_neg q]; exact .cons a ih
    exact go r
  · exact r.app (.cons hv .nil)
theorem putK_len (xs : List (κ × V)) (k : κ) (v : V) : (putK xs k v).length ≤ xs.length + 1 := by
  unfold putK
  split
  · rw [List.length_map]; omega
  · rw [List.length_append]; exact Nat.le_refl _
end
section
variable {K : PySem.W.Frag} {B H : Hp}
theorem kV_keyD {v : V} {d : D} {k : Key} (r : Rep K B v d) (h : keyD d = some k) : v = kV k := by
  cases r <;> cases h <;> rfl
theorem kVs_keysD : ∀ {vs : List V} {ds : List D} {ks : List Key}, Reps K B vs ds → keysD ds = some ks → vs = ks.map kV
  | _, _, _, .nil, h => by cases h; rfl
  | _, _, _, .cons (d := d) (ds := ds) a r, h => by
    rw [keysD] at h
    split at h
    · rename_i k ks h1 h2
      cases h
      rw [List.map_cons, kV_keyD a h1, kVs_keysD r h2]
    · cases h
theorem kVN_keyD {v : V} {d : D} {k : Key} (r : RepN K H B v d) (h : keyD d = some k) : v = kV k := by
  rcases r with r | ⟨p, e, n, o⟩
  · exact kV_keyD r h
  · cases d <;> first | exact o.elim | cases h
end
/-- what a dict holds at a key: none where it is no key of such a dict -/
def dLook : D → D → Option (Option D)
  | .dk ks vs, x => (keyD x).map fun k => lookG k (ks.zip vs)
  | .dt ks vs, .tup xs => (keysD xs).map fun k => lookG k (ks.zip vs)
  | _, _ => none
section
variable {K : PySem.W.Frag} {B H : Hp}
theorem dLook_ok (s : Sub B H) {x y : V} {a b : D} {o : Option D} (ra : RepN K H B x a) (rb : RepN K H B y b) (h : dLook a b = some o) : ∃ p ov, x = .ref p ∧ DGet H p y ov ∧ ov.isSome = o.isSome ∧ ∀ d, o = some d → ∃ v, ov = some v ∧ Rep K B v d := by
  unfold dLook at h
  split at h
  · rename_i ks vs
    obtain ⟨k, h1, h2⟩ := Option.map_eq_some_iff.mp h
    subst h2
    obtain ⟨p, kvs, rfl, e1, e2, e3⟩ := ra.dk s
    have P := Prs.of e2 e3
    refine ⟨p, valV kvs k, rfl, .inl ⟨kvs, k, e1, kVN_keyD rb h1, rfl⟩, P.isSome k, fun d hd => ?_⟩
    exact (P.look k).1 d hd
  · rename_i ks vs xs
    obtain ⟨k, h1, h2⟩ := Option.map_eq_some_iff.mp h
    subst h2
    obtain ⟨p, kvs, rfl, e1, e2, e3⟩ := ra.dt s
    obtain ⟨q, ys, rfl, f1, f2, f3⟩ := rb.tup s
    have P := Prs.of e2 e3
    refine ⟨p, valV kvs k, rfl, .inr ⟨kvs, k, q, e1, rfl, by rw [← kVs_keysD f3 h1]; exact s _ _ f2, rfl⟩, P.isSome k, fun d hd => ?_⟩
    exact (P.look k).1 d hd
  · cases h
end
/-- d[k] = v -/
def dPut : D → D → D → Option D
  | .dk ks vs, x, v => (keyD x).bind fun k => if (ks.zip vs).length < sizeLine then some (.dk ((putG (ks.zip vs) k v).map (·.1)) ((putG (ks.zip vs) k v).map (·.2))) else none
  | .dt ks vs, .tup xs, v => (keysD xs).bind fun k => if (ks.zip vs).length < sizeLine then some (.dt ((putG (ks.zip vs) k v).map (·.1)) ((putG (ks.zip vs) k v).map (·.2))) else none
  | _, _, _ => none
section
variable {K : PySem.W.Frag} {B H : Hp}
theorem dPut_ok (s : Sub B H) {p : Addr} {y z : V} {a b c d : D} (oa : Own K H B p a) (nB : B p = none) (rb : RepN K H B y b) (rc : Rep K B z c) (h : dPut a b c = some d) : ∃ u, DPut H p y z (upd H p u) ∧ Own K (upd H p u) B p d := by
  unfold dPut at h
  split at h
  · rename_i ks vs x v
    obtain ⟨k, h1, h2⟩ := Option.bind_eq_some_iff.mp h
    split at h2
    · rename_i hl
      cases h2
      obtain ⟨kvs, e1, e2, e3⟩ := oa
      have P := Prs.of e2 e3
      have Q := P.put k rc
      exact ⟨.dK (putK kvs k z), .inl ⟨kvs, k, e1, kVN_keyD rb h1, by rw [P.length]; exact hl, rfl⟩, _, upd_same, Q.keys, Q.vals⟩
    · cases h2
  · rename_i ks vs xs v
    obtain ⟨k, h1, h2⟩ := Option.bind_eq_some_iff.mp h
    split at h2
    · rename_i hl
      cases h2
      obtain ⟨kvs, e1, e2, e3⟩ := oa
      obtain ⟨q, ys, rfl, f1, f2, f3⟩ := rb.tup s
      have P := Prs.of e2 e3
      have Q := P.put k rc
      exact ⟨.dT (putK kvs k z), .inr ⟨kvs, k, q, e1, rfl, by rw [← kVs_keysD f3 h1]; exact s _ _ f2, by rw [P.length]; exact hl, rfl⟩, _, upd_same, Q.keys, Q.vals⟩
    · cases h2
  · cases h
end
def kD : Key → D
  | .inl i => .int i
  | .inr x => .str x
section
variable {K : PySem.W.Frag} {B H : Hp}
theorem Al.tup (s : Sub B H) {q : Addr} {xs : List V} (h : H q = some (.tup xs)) : Al H B H (upd B q (.tup xs)) := by
  refine ⟨.refl _, fun a u e => ?_, fun a u e => ?_, fun a c => ?_⟩
  · by_cases z : a = q
    · subst z; rw [s _ _ e] at h; cases h; exact upd_same
    · rw [upd_ne z]; exact e
  · by_cases z : a = q
    · subst z; rw [upd_same] at e; cases e; exact h
    · rw [upd_ne z] at e; exact s _ _ e
  · have z : a ≠ q := fun z => by subst z; obtain ⟨o, e, c⟩ := c; rw [h] at e; cases e; cases c
    rw [upd_ne z]
theorem keys_reps (k : List Key) : Reps K B (k.map kV) (k.map kD) := by
  induction k with
  | nil => exact .nil
  | cons a k ih => exact .cons (by cases a <;> constructor) ih
theorem rep_key (k : Key) : Rep K B (kV k) (kD k) := by cases k <;> constructor
/-- the key tuples, told as data -/
theorem keys_al (s : Sub B H) {kvs : List (List Key × V)} : ∀ {bs : List Addr}, IsKeys H kvs bs → ∃ B', Al H B H B' ∧ Reps K B' (bs.map V.ref) ((kvs.map (·.1)).map fun k => .tup (k.map kD)) ∧ (∀ p, H p = none → B' p = none) := by
  induction kvs with
  | nil => intro bs h; cases h; exact ⟨B, .refl s, .nil, fun p hp => s.none hp⟩
  | cons kv kvs ih =>
    intro bs h
    cases h with
    | cons hb ht =>
      obtain ⟨B1, a1, r1, n1⟩ := ih ht
      have a2 := Al.tup a1.sub' hb
      exact ⟨_, a1.trans a2, .cons (.tup upd_same (keys_reps _)) (r1.mono a2.subB), fun p hp => by
        have q := a2.sub'.none hp
        exact q⟩
end
end DL

end
section
set_option maxRecDepth 100000
set_option maxHeartbeats 2000000
/-! DL9: operations on data: arithmetic, comparisons, lengths, items, slices. -/
namespace DL
open PySem PySem.Spec PyProof.Rows L2

def si (i : Int) : Option Sl := some (.sh (.int i))
def sb (b : Bool) : Option Sl := some (.sh (.bl b))
def ss (x : Str) : Option Sl := some (.sh (.str x))
def st (ds : List D) : Option Sl := some (.sh (.tup ds))
def sl (ds : List D) : Option Sl := some (.ow (.lst ds))
/-- lists and texts have a largest length -/
def fits (n : Nat) (r : Option Sl) : Option Sl := if n ≤ sizeLine then r else none
theorem fits_ok {n : Nat} {r : Option Sl} {s : Sl} (h : fits n r = some s) : n ≤ sizeLine ∧ r = some s := by
  unfold fits at h
  split at h
  · exact ⟨by assumption, h⟩
  · cases h
def small64 (i : Int) : Bool := decide (-(2 ^ 64) < i ∧ i < 2 ^ 64)
def gAdd : D → D → Option Sl
  | .int a, .int b => si (a + b)
  | .str a, .str b => fits (a.length + b.length) (ss (a ++ b))
  | .tup a, .tup b => fits (a.length + b.length) (st (a ++ b))
  | .lst a, .lst b => fits (a.length + b.length) (sl (a ++ b))
  | _, _ => none
def gSub : D → D → Option Sl
  | .int a, .int b => si (a - b)
  | _, _ => none
def gMul : D → D → Option Sl
  | .int a, .int b => if small64 a || small64 b || decide (a.natAbs.log2 + b.natAbs.log2 < 1000000) then si (a * b) else none
  | .lst a, .int k => if decide (0 ≤ k ∧ k < 2 ^ 30) then fits (a.length * k.toNat) (sl (List.replicate k.toNat a).flatten) else none
  | .tup a, .int k => if decide (a ≠ []) && decide (2 ≤ k ∧ k ≤ 1000) && decide (a.length ≤ 1000) then st (List.replicate k.toNat a).flatten else none
  | _, _ => none
def gDiv : D → D → Option Sl
  | .int a, .int b => if decide (0 < b ∧ b < 1073741824) then si (a / b) else none
  | _, _ => none
def gMod : D → D → Option Sl
  | .int a, .int b => if decide (0 < b) then si (a % b) else none
  | _, _ => none
def gPow : D → D → Option Sl
  | .int a, .int b => if decide (0 ≤ b ∧ b ≤ 1000000 ∧ a.natAbs < 2 ^ 64) then si (a ^ b.toNat) else none
  | _, _ => none
def gCmp (f : Int → Int → Bool) : D → D → Option Sl
  | .int a, .int b => sb (f a b)
  | _, _ => none
def gNeg : D → Option Sl
  | .int a => si (-a)
  | _ => none
def isNon : D → Bool
  | .non => true
  | _ => false
def gIsN : D → D → Option Sl := fun a b => if isNon b then sb (isNon a) else none
def gNotN : D → D → Option Sl := fun a b => if isNon b then sb (!isNon a) else none
section
variable {X : Cx} {K : PySem.W.Frag}
theorem rG2.use {g : D → D → Option Sl} {x y : V} {H : Hp} {Q : VK} (h : rG2 K g x y H Q) : ∃ B a b s, Sub B H ∧ RepN K H B x a ∧ RepN K H B y b ∧ g a b = some s ∧ ResG K B H Q s := h
theorem ifT {c : Bool} {r : Option Sl} {s : Sl} (h : (if c then r else none) = some s) : c = true ∧ r = some s := by
  cases c with
  | true => exact ⟨rfl, h⟩
  | false => cases h
theorem og_add : OpR X (binaryOp .Add) (rG2 X.K gAdd) := by
  intro pins s σ H x y v u Q I rx ry h
  obtain ⟨B, a, b, r, sb', ra, rb, hg, k⟩ := h
  match a, b, ra, rb, hg with
  | .int i, .int j, ra, rb, hg => cases ra.int; cases rb.int; cases hg; exact op_add pins s σ H _ _ v u Q I rx ry ⟨i, j, rfl, rfl, k.int sb'⟩
  | .str i, .str j, ra, rb, hg =>
    cases ra.str; cases rb.str
    obtain ⟨hz, e⟩ := fits_ok hg
    cases e
    exact op_add_str pins s σ H _ _ v u Q I rx ry ⟨i, j, rfl, rfl, hz, k.str sb'⟩
  | .tup as, .tup bs, ra, rb, hg =>
    obtain ⟨hz, e⟩ := fits_ok hg
    cases e
    obtain ⟨p, xs, rfl, h1, h1b, h2⟩ := ra.tup sb'
    obtain ⟨q, ys, rfl, h3, h3b, h4⟩ := rb.tup sb'
    refine op_catA pins s σ H _ _ v u Q I rx ry ⟨p, q, xs, ys, rfl, rfl, h1, h3, by rw [h2.length, h4.length]; exact hz, fun e => ?_, fun _ e => ?_, fun _ _ => k.tup sb' (h2.append h4)⟩
    · subst e
      cases h2
      exact k.sh sb' (.tup h3b h4)
    · subst e
      cases h4
      exact k.sh sb' (.tup h1b (by simpa using h2))
  | .lst as, .lst bs, ra, rb, hg =>
    obtain ⟨hz, e⟩ := fits_ok hg
    cases e
    obtain ⟨p, xs, rfl, h1, h2⟩ := ra.lst sb'
    obtain ⟨q, ys, rfl, h3, h4⟩ := rb.lst sb'
    exact op_cat pins s σ H _ _ v u Q I rx ry ⟨p, q, xs, ys, rfl, rfl, h1, h3, by rw [h2.length, h4.length]; exact hz, k.lst sb' (h2.append h4)⟩
theorem og_int {f : Value → Value → Sem Value} {g : Int → Int → V} {gd : D → D → Option Sl} {C : Int → Int → Prop} (ho : OpR X f (rI C g)) (h : ∀ a b s, gd a b = some s → ∃ i j d, a = .int i ∧ b = .int j ∧ C i j ∧ s = .sh d ∧ ∀ B, Rep X.K B (g i j) d) : OpR X f (rG2 X.K gd) := by
  intro pins s σ H x y v u Q I rx ry hh
  obtain ⟨B, a, b, r, sb', ra, rb, hg, k⟩ := hh
  obtain ⟨i, j, d, rfl, rfl, c, rfl, rd⟩ := h a b r hg
  cases ra.int
  cases rb.int
  exact ho pins s σ H _ _ v u Q I rx ry ⟨i, j, rfl, rfl, c, k.sh sb' (rd B)⟩
theorem og_int0 {f : Value → Value → Sem Value} {g : Int → Int → V} {gd : D → D → Option Sl} (ho : OpR X f (rI0 g)) (h : ∀ a b s, gd a b = some s → ∃ i j d, a = .int i ∧ b = .int j ∧ s = .sh d ∧ ∀ B, Rep X.K B (g i j) d) : OpR X f (rG2 X.K gd) := by
  intro pins s σ H x y v u Q I rx ry hh
  obtain ⟨B, a, b, r, sb', ra, rb, hg, k⟩ := hh
  obtain ⟨i, j, d, rfl, rfl, rfl, rd⟩ := h a b r hg
  cases ra.int
  cases rb.int
  exact ho pins s σ H _ _ v u Q I rx ry ⟨i, j, rfl, rfl, k.sh sb' (rd B)⟩
theorem two_int {g : Int → Int → Option Sl} {a b : D} {s : Sl} (h : (match a, b with | .int a, .int b => g a b | _, _ => none) = some s) : ∃ i j, a = .int i ∧ b = .int j ∧ g i j = some s := by
  match a, b, h with
  | .int i, .int j, h => exact ⟨i, j, rfl, rfl, h⟩
theorem og_sub : OpR X (binaryOp .Sub) (rG2 X.K gSub) := og_int0 op_sub fun a b s h => by
  unfold gSub at h
  obtain ⟨i, j, rfl, rfl, h⟩ := two_int h
  cases h
  exact ⟨i, j, _, rfl, rfl, rfl, fun _ => .int _⟩
theorem og_div : OpR X (binaryOp .FloorDiv) (rG2 X.K gDiv) := og_int op_fdiv fun a b s h => by
  unfold gDiv at h
  obtain ⟨i, j, rfl, rfl, h⟩ := two_int h
  obtain ⟨c, e⟩ := ifT h
  cases e
  have c : 0 < j ∧ j < 1073741824 := of_decide_eq_true c
  exact ⟨i, j, _, rfl, rfl, c, rfl, fun _ => .int _⟩
theorem og_mod : OpR X (binaryOp .Mod) (rG2 X.K gMod) := og_int op_mod fun a b s h => by
  unfold gMod at h
  obtain ⟨i, j, rfl, rfl, h⟩ := two_int h
  obtain ⟨c, e⟩ := ifT h
  cases e
  exact ⟨i, j, _, rfl, rfl, of_decide_eq_true c, rfl, fun _ => .int _⟩
theorem og_pow : OpR X (binaryOp .Pow) (rG2 X.K gPow) := og_int op_pow fun a b s h => by
  unfold gPow at h
  obtain ⟨i, j, rfl, rfl, h⟩ := two_int h
  obtain ⟨c, e⟩ := ifT h
  cases e
  have c : 0 ≤ j ∧ j ≤ 1000000 ∧ i.natAbs < 2 ^ 64 := of_decide_eq_true c
  exact ⟨i, j, _, rfl, rfl, c, rfl, fun _ => .int _⟩
theorem og_mul : OpR X (binaryOp .Mult) (rG2 X.K gMul) := by
  intro pins s σ H x y v u Q I rx ry h
  obtain ⟨B, a, b, r, sb', ra, rb, hg, k⟩ := h
  match a, b, ra, rb, hg with
  | .int i, .int j, ra, rb, hg =>
    cases ra.int; cases rb.int
    obtain ⟨c, e⟩ := ifT hg
    cases e
    simp only [Bool.or_eq_true] at c
    rcases c with (c | c) | c
    · exact op_mul pins s σ H _ _ v u Q I rx ry ⟨i, j, rfl, rfl, .inl (of_decide_eq_true c), k.int sb'⟩
    · exact op_mul pins s σ H _ _ v u Q I rx ry ⟨i, j, rfl, rfl, .inr (of_decide_eq_true c), k.int sb'⟩
    · have c : i.natAbs.log2 + j.natAbs.log2 < 1000000 := of_decide_eq_true c
      exact op_mulW pins s σ H _ _ v u Q I rx ry ⟨i, j, rfl, rfl, c, k.int sb'⟩
  | .lst as, .int n, ra, rb, hg =>
    cases rb.int
    obtain ⟨c, e⟩ := ifT hg
    obtain ⟨hz, e⟩ := fits_ok e
    cases e
    have c := of_decide_eq_true c
    obtain ⟨p, xs, rfl, h1, h2⟩ := ra.lst sb'
    have rep : ∀ m, Reps X.K B (List.replicate m xs).flatten (List.replicate m as).flatten := by
      intro m
      induction m with
      | zero => exact .nil
      | succ m ih => rw [List.replicate_succ, List.replicate_succ, List.flatten_cons, List.flatten_cons]; exact h2.append ih
    exact op_rep pins s σ H _ _ v u Q I rx ry ⟨p, n, xs, rfl, rfl, h1, by omega, by omega, by rw [h2.length]; exact hz, k.lst sb' (rep _)⟩
  | .tup as, .int n, ra, rb, hg =>
    cases rb.int
    obtain ⟨c, e⟩ := ifT hg
    cases e
    simp only [Bool.and_eq_true] at c
    obtain ⟨⟨c1, c2⟩, c3⟩ := c
    have c1 := of_decide_eq_true c1
    have c2 := of_decide_eq_true c2
    have c3 := of_decide_eq_true c3
    obtain ⟨p, xs, rfl, h1, _, h2⟩ := ra.tup sb'
    have rep : ∀ m, Reps X.K B (List.replicate m xs).flatten (List.replicate m as).flatten := by
      intro m
      induction m with
      | zero => exact .nil
      | succ m ih => rw [List.replicate_succ, List.replicate_succ, List.flatten_cons, List.flatten_cons]; exact h2.append ih
    refine op_repT pins s σ H _ _ v u Q I rx ry ⟨p, n, xs, rfl, rfl, h1, fun e => ?_, c2.1, c2.2, by rw [h2.length]; exact c3, k.tup sb' (rep _)⟩
    subst e
    cases h2
    exact c1 rfl
theorem og_cmp {op : CmpOp} {f : Int → Int → Bool} (ho : OpR X (compareOp op) (rI0 fun i j => .bl (f i j))) : OpR X (compareOp op) (rG2 X.K (gCmp f)) := og_int0 ho fun a b s h => by
  unfold gCmp at h
  obtain ⟨i, j, rfl, rfl, h⟩ := two_int h
  cases h
  exact ⟨i, j, _, rfl, rfl, rfl, fun _ => .bl _⟩
def gLt : D → D → Option Sl := gCmp fun i j => decide (i < j)
def gLe : D → D → Option Sl := gCmp fun i j => decide (i ≤ j)
def gGt : D → D → Option Sl := gCmp fun i j => decide (j < i)
def gGe : D → D → Option Sl := gCmp fun i j => decide (j ≤ i)
theorem og_lt : OpR X (compareOp .Lt) (rG2 X.K gLt) := og_cmp op_lt
theorem og_le : OpR X (compareOp .LtE) (rG2 X.K gLe) := og_cmp op_le
theorem og_gt : OpR X (compareOp .Gt) (rG2 X.K gGt) := og_cmp op_gt
theorem og_ge : OpR X (compareOp .GtE) (rG2 X.K gGe) := og_cmp op_ge
theorem isNon_ok {d : D} (h : isNon d = true) : d = .non := by cases d <;> first | rfl | cases h
theorem isNon_rep {H B : Hp} {x : V} {a : D} (r : RepN K H B x a) : isNon a = decide (x = .non) := by
  have := r.isNon
  cases a <;> simp [isNon, this]
theorem og_isN : OpR X (compareOp .Is) (rG2 X.K gIsN) := by
  intro pins s σ H x y v u Q I rx ry h
  obtain ⟨B, a, b, r, sb', ra, rb, hg, k⟩ := h
  obtain ⟨c, e⟩ := ifT hg
  obtain rfl := isNon_ok c
  cases rb.non
  cases e
  refine op_isN pins s σ H _ _ v u Q I rx ry ⟨rfl, ?_⟩
  rw [← isNon_rep ra]
  exact k.bl sb'
theorem og_notN : OpR X (compareOp .IsNot) (rG2 X.K gNotN) := by
  intro pins s σ H x y v u Q I rx ry h
  obtain ⟨B, a, b, r, sb', ra, rb, hg, k⟩ := h
  obtain ⟨c, e⟩ := ifT hg
  obtain rfl := isNon_ok c
  cases rb.non
  cases e
  refine op_notN pins s σ H _ _ v u Q I rx ry ⟨rfl, ?_⟩
  rw [← isNon_rep ra]
  exact k.bl sb'
theorem og_neg : UnR X (unaryOp .USub) (fun x H Q => rG1 X.K gNeg x H Q) := by
  intro pins s σ H x v Q I rx h
  obtain ⟨B, a, r, sb', ra, hg, k⟩ := h
  match a, ra, hg with
  | .int i, ra, hg => cases ra.int; cases hg; exact un_neg pins s σ H _ v Q I rx ⟨i, rfl, k.int sb'⟩

/-! ### lengths, items, slices -/
def gLen : D → Option Sl
  | .tup ds => si ds.length
  | .lst ds => si ds.length
  | .rol ds => si ds.length
  | .str x => if x.length ≤ sizeLine then si x.length else none
  | .dk ks _ => si ks.length
  | _ => none
theorem cg_len : CallR X (.builtin "len") (rG X.K (gg1 gLen)) := by
  intro pins s σ H xs us Q I r h
  obtain ⟨x, rfl, B, a, q, sb', ra, hg, k⟩ := rG.one h
  by_cases hd : ∃ ks vs, a = .dk ks vs
  · obtain ⟨ks, vs, rfl⟩ := hd
    obtain ⟨p, kvs, rfl, e1, e2, e3⟩ := ra.dk sb'
    cases hg
    obtain ⟨u, rfl, ru⟩ := vals1 r
    cases ru
    exact d_len I e1 fun t s' I' => ⟨.int kvs.length, H, I', ⟨t, rfl⟩, by have z := k.int sb'; rw [← e2, List.length_map] at z; exact z⟩
  refine call_len pins s σ H [x] us Q I r ?_
  match a, ra, hg, hd with
  | .tup ds, ra, hg, hd => obtain ⟨p, ys, rfl, h1, _, h2⟩ := ra.tup sb'; cases hg; exact ⟨_, ys.length, rfl, .inr ⟨ys, h1, rfl⟩, by rw [h2.length]; exact k.int sb'⟩
  | .lst ds, ra, hg, hd => obtain ⟨p, ys, rfl, h1, h2⟩ := ra.lst sb'; cases hg; exact ⟨_, ys.length, rfl, .inl ⟨ys, .of h1, rfl⟩, by rw [h2.length]; exact k.int sb'⟩
  | .rol ds, ra, hg, hd => obtain ⟨p, ys, rfl, h1, _, h2⟩ := ra.rol sb'; cases hg; exact ⟨_, ys.length, rfl, .inl ⟨ys, h1, rfl⟩, by rw [h2.length]; exact k.int sb'⟩
  | .str z, ra, hg, hd =>
    cases ra.str
    have hg : (if z.length ≤ sizeLine then si z.length else none) = some q := hg
    by_cases hz : z.length ≤ sizeLine
    · rw [if_pos hz] at hg; cases hg; exact ⟨_, z.length, rfl, ⟨hz, rfl⟩, k.int sb'⟩
    · rw [if_neg hz] at hg; cases hg
  | .dk ks vs, ra, hg, hd => exact absurd ⟨ks, vs, rfl⟩ hd
def dAt (ds : List D) (i : Int) : Option Sl := match atI ds i with
  | some d => some (.sh d)
  | none => none
def gIx0 : D → D → Option Sl
  | .tup ds, .int i => dAt ds i
  | .lst ds, .int i => dAt ds i
  | .rol ds, .int i => dAt ds i
  | .str x, .int i => if x.length ≤ sizeLine then (match atI x.cps.toList i with
    | some c => ss ⟨#[c]⟩
    | none => none) else none
  | _, _ => none
def gIx (a b : D) : Option Sl := match dLook a b with
  | some (some d) => some (.sh d)
  | some none => none
  | none => gIx0 a b
theorem atI_reps {B : Hp} {xs : List V} {ds : List D} {i : Int} {s : Sl} (r : Reps K B xs ds) (h : dAt ds i = some s) : ∃ v d, atI xs i = some v ∧ s = .sh d ∧ Rep K B v d := by
  unfold dAt at h
  cases hd : atI ds i with
  | none => rw [hd] at h; cases h
  | some d =>
    rw [hd] at h
    cases h
    unfold atI at hd
    cases hj : ixN ds.length i with
    | none => rw [hj] at hd; cases hd
    | some j =>
      rw [hj] at hd
      obtain ⟨v, h1, h2⟩ := r.get' (show ds[j]? = some d from hd)
      refine ⟨v, d, ?_, rfl, h2⟩
      unfold atI
      rw [r.length, hj]
      exact h1
theorem ig_ix (hu : X.A.units + 1 < cLine) : IxR X (fun x y H Q => rG2 X.K gIx x y H Q) := by
  intro value slice pins s σ H x y v u Q I rx ry h hs
  obtain ⟨B, a, b, q, sb', ra, rb, hg, k⟩ := h
  unfold gIx at hg
  split at hg
  · rename_i d hl
    obtain ⟨p, ov, rfl, g, _, kk⟩ := dLook_ok sb' ra rb hl
    obtain ⟨vv, rfl, rv⟩ := kk d rfl
    cases (show v = Value.ref p from rx)
    cases hg
    exact tail_any (dict_typeIs I g) PySem.F.slot_dict_getitem.lookup (d_getItem hu I g ry fun w' s3 I3 rw' => ⟨vv, H, I3, rw', k.sh sb' rv⟩) hs
  · cases hg
  refine ix_seq value slice pins s σ H x y v u Q I rx ry ?_ hs
  match a, b, ra, rb, hg with
  | .tup ds, .int i, ra, rb, hg =>
    obtain ⟨p, ys, rfl, h1, _, h2⟩ := ra.tup sb'
    cases rb.int
    obtain ⟨v', d, g1, rfl, g3⟩ := atI_reps h2 hg
    exact .inr (.inl ⟨p, ys, i, v', rfl, rfl, h1, g1, k.sh sb' g3⟩)
  | .lst ds, .int i, ra, rb, hg =>
    obtain ⟨p, ys, rfl, h1, h2⟩ := ra.lst sb'
    cases rb.int
    obtain ⟨v', d, g1, rfl, g3⟩ := atI_reps h2 hg
    exact .inl ⟨p, ys, i, v', rfl, rfl, .of h1, g1, k.sh sb' g3⟩
  | .rol ds, .int i, ra, rb, hg =>
    obtain ⟨p, ys, rfl, h1, _, h2⟩ := ra.rol sb'
    cases rb.int
    obtain ⟨v', d, g1, rfl, g3⟩ := atI_reps h2 hg
    exact .inl ⟨p, ys, i, v', rfl, rfl, h1, g1, k.sh sb' g3⟩
  | .str z, .int i, ra, rb, hg =>
    cases ra.str
    cases rb.int
    have hg : (if z.length ≤ sizeLine then (match atI z.cps.toList i with | some c => ss ⟨#[c]⟩ | none => none) else none) = some q := hg
    by_cases hz : z.length ≤ sizeLine
    · rw [if_pos hz] at hg
      cases hc : atI z.cps.toList i with
      | none => rw [hc] at hg; cases hg
      | some c => rw [hc] at hg; cases hg; exact .inr (.inr ⟨z, i, c, rfl, rfl, hz, hc, k.str sb'⟩)
    · rw [if_neg hz] at hg; cases hg
/-- a slice: its parts left out, or ints -/
def cutD (ds : List D) (lo hi : Option Int) : List D := (ds.drop (HT.sIx ds.length 0 lo)).take (HT.sIx ds.length ds.length hi - HT.sIx ds.length 0 lo)
def gCut (lo hi : Option Int) : D → Option Sl
  | .tup ds => st (cutD ds lo hi)
  | .lst ds => sl (cutD ds lo hi)
  | .str x => if x.length ≤ sizeLine then ss (cutS x lo hi) else none
  | _ => none
theorem sg_cut : L2.SlR X (fun x lo hi H Q => rG1 X.K (gCut lo hi) x H Q) := by
  intro pins s σ H x v vl vu lo hi sla Q I rx hs pl pu h
  obtain ⟨B, a, q, sb', ra, hg, k⟩ := h
  match a, ra, hg with
  | .tup ds, ra, hg =>
    obtain ⟨p, ys, rfl, h1, h1b, h2⟩ := ra.tup sb'
    cases hg
    refine sl_tupA pins s σ H _ v vl vu lo hi sla Q I rx hs pl pu ⟨p, ys, rfl, h1, fun e => ?_, fun _ => ?_⟩
    · refine k.sh sb' (.tup h1b ?_)
      have : cutD ds lo hi = ds := by
        unfold cutD
        rw [← h2.length, e.1, e.2]
        simp [h2.length]
      rw [this]
      exact h2
    · refine k.tup sb' ?_
      unfold cutV cutD
      rw [h2.length]
      exact (h2.drop _).take _
  | .lst ds, ra, hg =>
    obtain ⟨p, ys, rfl, h1, h2⟩ := ra.lst sb'
    cases hg
    refine sl_list pins s σ H _ v vl vu lo hi sla Q I rx hs pl pu ⟨p, ys, rfl, .of h1, k.lst sb' ?_⟩
    unfold cutV cutD
    rw [h2.length]
    exact (h2.drop _).take _
  | .str z, ra, hg =>
    cases ra.str
    have hg : (if z.length ≤ sizeLine then ss (cutS z lo hi) else none) = some q := hg
    by_cases hz : z.length ≤ sizeLine
    · rw [if_pos hz] at hg; cases hg; exact sl_str pins s σ H _ v vl vu lo hi sla Q I rx hs pl pu ⟨z, rfl, hz, k.str sb'⟩
    · rw [if_neg hz] at hg; cases hg
def gCut00 : D → Option Sl := gCut none none
def gCut10 : D → D → Option Sl := fun a b => match b with
  | .int i => gCut (some i) none a
  | _ => none
def gCut01 : D → D → Option Sl := fun a b => match b with
  | .int i => gCut none (some i) a
  | _ => none
def gCut11 : D → D → D → Option Sl := fun a b c => match b, c with
  | .int i, .int j => gCut (some i) (some j) a
  | _, _ => none
variable {F : Fr} {W : WX}
theorem rG.three {K : PySem.W.Frag} {g : D → D → D → Option Sl} {xs : List V} {H : Hp} {Q : VK} (h : rG K (gg3 g) xs H Q) : ∃ x y z, xs = [x, y, z] ∧ ∃ B a b c s, Sub B H ∧ RepN K H B x a ∧ RepN K H B y b ∧ RepN K H B z c ∧ g a b c = some s ∧ ResG K B H Q s := by
  obtain ⟨B, ds, s, sb', rn, hg, k⟩ := h
  match ds, rn, hg with
  | [a, b, c], .cons r1 (.cons r2 (.cons r3 .nil)), hg => exact ⟨_, _, _, rfl, B, a, b, c, s, sb', r1, r2, r3, hg, k⟩
theorem de_cut10 {o1 o2 : Opd} {a b : Expr} {p2 pos : Pos} (hK : F.K = X.K) (ha : PE X a (tO F W o1)) (hb : PE X b (tO F W o2)) (bo : bors F.n [o1, o2] = true) : PE X (.Subscript a (.Slice (some b) none none p2) pos) (tE F W (eN (gg2 gCut10) [o1, o2])) := by
  refine (pe_slice sg_cut ha (po_some hb) po_none).imp fun σ H Q q => ?_
  refine tO_mono o1 σ H _ _ (fun x H1 q1 => tO_mono o2 σ H1 _ _ (fun y H2 q2 => ?_) q1) (eN_run bo q)
  obtain ⟨x', y', e, B, d1, d2, s, sb', r1, r2, hg, k⟩ := rG.two q2
  cases e
  match d2, r2, hg with
  | .int i, r2, hg => cases r2.int; rw [hK] at r1 k; exact ⟨i, rfl, B, d1, s, sb', r1, hg, k⟩
theorem de_cut01 {o1 o2 : Opd} {a b : Expr} {p2 pos : Pos} (hK : F.K = X.K) (ha : PE X a (tO F W o1)) (hb : PE X b (tO F W o2)) (bo : bors F.n [o1, o2] = true) : PE X (.Subscript a (.Slice none (some b) none p2) pos) (tE F W (eN (gg2 gCut01) [o1, o2])) := by
  refine (pe_slice sg_cut ha po_none (po_some hb)).imp fun σ H Q q => ?_
  refine tO_mono o1 σ H _ _ (fun x H1 q1 => tO_mono o2 σ H1 _ _ (fun y H2 q2 => ?_) q1) (eN_run bo q)
  obtain ⟨x', y', e, B, d1, d2, s, sb', r1, r2, hg, k⟩ := rG.two q2
  cases e
  match d2, r2, hg with
  | .int i, r2, hg => cases r2.int; rw [hK] at r1 k; exact ⟨i, rfl, B, d1, s, sb', r1, hg, k⟩
end
end DL

end
section
set_option maxRecDepth 100000
set_option maxHeartbeats 2000000
/-! DT1: from the text to computations over data: what is known of names, the step of the translation, expressions. -/
namespace DL
open PySem PySem.Spec PyProof.Rows L2

/-- a def that is known: the parameter that it may change, how many it has, what it gives -/
structure Sig where
  mi : Option Nat
  n : Nat
  m : List D → RF
/-- what a name of the module is -/
inductive Gb where
  | fn (g : Sig) | con (d : D) | bi
structure Cf where
  N : List Str
  sc : Scope
  asg : Str → Bool
  gt : List (Str × Gb)
  /-- the rows where a dict display without keys is one with tuple keys -/
  tk : List Nat
def ixOf : List Str → Str → Option Nat
  | [], _ => none
  | y :: ys, x => if x == y then some 0 else (ixOf ys x).map (· + 1)
theorem ixOf_ok : ∀ {N : List Str} {x : Str} {i : Nat}, ixOf N x = some i → N[i]? = some x
  | y :: ys, x, i, h => by
    unfold ixOf at h
    split at h
    · rename_i e; cases h; simp [eq_of_beq e]
    · cases h2 : ixOf ys x with
      | none => rw [h2] at h; cases h
      | some j => rw [h2] at h; cases h; simpa using ixOf_ok h2
def visB (sc : Scope) (x : Str) : Bool := match sc.names.lookup x with
  | some .local => true
  | some .cell => true
  | some .free => true
  | _ => false
theorem visB_ok {sc : Scope} {x : Str} (h : visB sc x = true) : Vis sc x := by
  unfold visB at h
  split at h
  · exact .inl (by assumption)
  · exact .inr (.inl (by assumption))
  · exact .inr (.inr (by assumption))
  · cases h
def slot (cf : Cf) (x : Str) : Option Nat := if visB cf.sc x && !(x == ("__debug__" : Str)) && !(x == ("__classdict__" : Str)) then ixOf cf.N x else none
def glb (cf : Cf) (x : Str) : Option Gb := match cf.sc.names.lookup x with
  | some .globalImplicit => if x == ("__debug__" : Str) || x == ("__name__" : Str) then none else cf.gt.lookup x
  | _ => none
/-- what is true of a name of the module -/
def GbOk (X : Cx) (x : Str) : Gb → Prop
  | .fn g => (∀ j, g.mi = some j → j < g.n) ∧ ∃ k f, FnG X.prog X.w X.K X.mg X.base k f g.n (spM X.K X.mg g.n g.mi g.m) ∧ X.mg x = some (.ref f) ∧ PySem.W.keepIn X.K (.ref f) = true ∧ Room k X.A
  | .con d => ∃ v u, X.mg x = some u ∧ RelV v u ∧ ∀ B, Rep X.K B v d
  | .bi => X.mg x = none
structure CtxOk (X : Cx) (F : Fr) (W : WX) (cf : Cf) : Prop where
  N : X.N = cf.N
  nd : X.N.Nodup
  sc : X.env.scope = cf.sc
  asg : ∀ x, cf.asg x = true → Loc X.env.scope x ∧ (X.fn x = true ∨ X.env.scope.names.lookup x = some .local)
  calm : X.calm = true
  K : F.K = X.K
  mg : F.mg = X.mg
  n : F.n = cf.N.length
  gt : ∀ x g, cf.gt.lookup x = some g → GbOk X x g
  gd : X.A.guards = some []
  rm : Room 0 X.A
  tk : Takes X W
  ps : PassesOwn (model X.prog X.w) X.A X.env X.xe
section
variable {X : Cx} {F : Fr} {W : WX} {cf : Cf}
theorem slot_ok (c : CtxOk X F W cf) {x : Str} {i : Nat} {pos : Pos} (h : slot cf x = some i) : PE X (.Name x pos) (tVar i) ∧ i < F.n ∧ X.N[i]? = some x := by
  unfold slot at h
  split at h
  · rename_i q
    simp only [Bool.and_eq_true, Bool.not_eq_true'] at q
    have e := ixOf_ok h
    rw [← c.N] at e
    exact ⟨pe_var e (by rw [c.sc]; exact visB_ok q.1.1) q.1.2 q.2, by rw [c.n, ← c.N]; exact (List.getElem?_eq_some_iff.mp e).1, e⟩
  · cases h
theorem glb_ok (c : CtxOk X F W cf) {x : Str} {g : Gb} (h : glb cf x = some g) : Gl X x ∧ (x == ("__debug__" : Str)) = false ∧ x ≠ "__name__" ∧ GbOk X x g := by
  unfold glb at h
  split at h
  · rename_i q
    split at h
    · cases h
    · rename_i q2
      simp only [Bool.or_eq_true, not_or, Bool.not_eq_true] at q2
      exact ⟨by show X.env.scope.names.lookup x = _; rw [c.sc]; exact q, q2.1, fun e => by rw [e] at q2; simp at q2, c.gt x g h⟩
  · cases h

/-! ### no star -/
def plainE : Expr → Bool
  | .Starred _ _ => false
  | _ => true
theorem star_one {e : Expr} {es : List Expr} {env : Env} (h : plainE e = true) : starEach (e :: es) env = (false, eval e env) :: starEach es env := by
  cases e <;> first | rfl | cases h
theorem star_any {pos : Pos} {env : Env} : ∀ {es : List Expr}, es.all plainE = true → (backTo pos (starEach es env)).any (·.1) = false
  | [], _ => rfl
  | e :: es, h => by
    have h' : plainE e = true ∧ es.all plainE = true := by simpa using h
    rw [star_one h'.1]
    show (false || (backTo pos (starEach es env)).any (·.1)) = false
    rw [star_any h'.2]
    rfl
/-! ### operands -/
structure Tr where
  e : Cf → Expr → Option (M Sl)
  t : Cf → Expr → Option (M Bool)
  s : Cf → Stmt → Option (M Fl)
structure TrOk (T : Tr) : Prop where
  e : ∀ (X : Cx) (F : Fr) (W : WX) (cf : Cf) (ex : Expr) (f : M Sl), CtxOk X F W cf → T.e cf ex = some f → PE X ex (tE F W f)
  t : ∀ (X : Cx) (F : Fr) (W : WX) (cf : Cf) (ex : Expr) (f : M Bool), CtxOk X F W cf → T.t cf ex = some f → PT X ex (tT F W f)
  s : ∀ (X : Cx) (F : Fr) (W : WX) (cf : Cf) (st : Stmt) (f : M Fl), CtxOk X F W cf → T.s cf st = some f → PS X st (tS F W f)
def opd (T : Tr) (cf : Cf) (e : Expr) : Option Opd := match e with
  | .Name x _ => (match slot cf x with
    | some i => some (.bor i)
    | none => (T.e cf e).map .val)
  | e => (T.e cf e).map .val
def vls (T : Tr) (cf : Cf) : List Expr → Option (List Opd)
  | [] => some []
  | e :: es => if plainE e then (match T.e cf e, vls T cf es with
    | some f, some os => some (.val f :: os)
    | _, _ => none) else none
def ops (T : Tr) (cf : Cf) : List Expr → Option (List Opd)
  | [] => some []
  | e :: es => if plainE e then (match opd T cf e, ops T cf es with
    | some o, some os => some (o :: os)
    | _, _ => none) else none
/-- operands of a call: the one that may be changed is a name -/
def opsC (T : Tr) (cf : Cf) (mi : Option Nat) : Nat → List Expr → Option (List Opd)
  | _, [] => some []
  | j, e :: es => if plainE e then (match (if mi = some j then opd T cf e else (T.e cf e).map .val), opsC T cf mi (j + 1) es with
    | some o, some os => some (o :: os)
    | _, _ => none) else none
variable {T : Tr}
theorem map_val {T : Tr} {cf : Cf} {e : Expr} {o : Opd} (h : (T.e cf e).map Opd.val = some o) : ∃ f, T.e cf e = some f ∧ o = .val f := by
  cases he : T.e cf e with
  | none => rw [he] at h; cases h
  | some f => rw [he] at h; cases h; exact ⟨f, rfl, rfl⟩
theorem opd_ok (c : CtxOk X F W cf) (K : TrOk T) {e : Expr} {o : Opd} (h : opd T cf e = some o) : PE X e (tO F W o) ∧ bors F.n [o] = true := by
  have val : ∀ {e : Expr}, (T.e cf e).map Opd.val = some o → PE X e (tO F W o) ∧ bors F.n [o] = true := fun {e} h => by
    obtain ⟨f, hf, rfl⟩ := map_val h
    exact ⟨PE.frz (K.e X F W cf e f c hf), rfl⟩
  unfold opd at h
  split at h
  · split at h
    · rename_i i hs
      cases h
      obtain ⟨h1, h2, _⟩ := slot_ok c hs
      exact ⟨h1, by simp [bors, h2]⟩
    · exact val h
  · exact val h
theorem bors_cons {n : Nat} {o : Opd} {os : List Opd} (h1 : bors n [o] = true) (h2 : bors n os = true) : bors n (o :: os) = true := by
  cases o with
  | val f => exact h2
  | bor i => simp [bors] at h1 ⊢; exact ⟨h1, h2⟩
theorem pa_ops (c : CtxOk X F W cf) (K : TrOk T) : ∀ {es : List Expr} {os : List Opd}, ops T cf es = some os → PA X es (chain F W os) ∧ bors F.n os = true ∧ es.all plainE = true ∧ os.length = es.length
  | [], os, h => by cases h; exact ⟨pa_nil, rfl, rfl, rfl⟩
  | e :: es, os, h => by
    unfold ops at h
    split at h
    · rename_i hp
      cases h1 : opd T cf e with
      | none => rw [h1] at h; cases h
      | some o =>
        cases h2 : ops T cf es with
        | none => rw [h1, h2] at h; cases h
        | some os' =>
          rw [h1, h2] at h
          cases h
          obtain ⟨a1, a2⟩ := opd_ok c K h1
          obtain ⟨b1, b2, b3, b4⟩ := pa_ops c K h2
          exact ⟨pa_cons a1 b1 (star_one hp), bors_cons a2 b2, by simp [hp]; simpa using b3, by simp [b4]⟩
    · cases h
theorem pa_vls (c : CtxOk X F W cf) (K : TrOk T) : ∀ {es : List Expr} {os : List Opd}, vls T cf es = some os → PA X es (chain F W os) ∧ bors F.n os = true ∧ es.all plainE = true ∧ os.length = es.length
  | [], os, h => by cases h; exact ⟨pa_nil, rfl, rfl, rfl⟩
  | e :: es, os, h => by
    unfold vls at h
    split at h
    · rename_i hp
      cases h1 : T.e cf e with
      | none => rw [h1] at h; cases h
      | some f =>
        cases h2 : vls T cf es with
        | none => rw [h1, h2] at h; cases h
        | some os' =>
          rw [h1, h2] at h
          cases h
          obtain ⟨b1, b2, b3, b4⟩ := pa_vls c K h2
          exact ⟨pa_cons (PE.frz (K.e X F W cf e f c h1)) b1 (star_one hp), b2, by simp [hp]; simpa using b3, by simp [b4]⟩
    · cases h
theorem pa_opsC (c : CtxOk X F W cf) (K : TrOk T) {mi : Option Nat} : ∀ {es : List Expr} {j : Nat} {os : List Opd}, opsC T cf mi j es = some os → PA X es (chain F W os) ∧ bors F.n os = true ∧ es.all plainE = true ∧ os.length = es.length
  | [], j, os, h => by cases h; exact ⟨pa_nil, rfl, rfl, rfl⟩
  | e :: es, j, os, h => by
    unfold opsC at h
    split at h
    · rename_i hp
      cases h1 : (if mi = some j then opd T cf e else (T.e cf e).map Opd.val) with
      | none => rw [h1] at h; cases h
      | some o =>
        cases h2 : opsC T cf mi (j + 1) es with
        | none => rw [h1, h2] at h; cases h
        | some os' =>
          rw [h1, h2] at h
          cases h
          obtain ⟨b1, b2, b3, b4⟩ := pa_opsC c K h2
          have a : PE X e (tO F W o) ∧ bors F.n [o] = true := by
            by_cases hm : mi = some j
            · rw [if_pos hm] at h1; exact opd_ok c K h1
            · rw [if_neg hm] at h1
              obtain ⟨f, hf, rfl⟩ := map_val h1
              exact ⟨PE.frz (K.e X F W cf e f c hf), rfl⟩
          exact ⟨pa_cons a.1 b1 (star_one hp), bors_cons a.2 b2, by simp [hp]; simpa using b3, by simp [b4]⟩
    · cases h
end
end DL

end
section
set_option maxRecDepth 100000
set_option maxHeartbeats 2000000
/-! DT2: displays, chains, and, or, built-ins by their names. -/
namespace DL
open PySem PySem.Spec PyProof.Rows L2

def allVal : List Opd → Bool
  | [] => true
  | .val _ :: os => allVal os
  | .bor _ :: _ => false
/-- as rG, of things that are never changed -/
def rGv (K : PySem.W.Frag) (g : List D → Option Sl) (xs : List V) (H : Hp) (Q : VK) : Prop := ∃ B ds s, Sub B H ∧ Reps K B xs ds ∧ g ds = some s ∧ ResG K B H Q s
def gTup (ds : List D) : Option Sl := fits ds.length (st ds)
def gLst (ds : List D) : Option Sl := fits ds.length (sl ds)
/-- x < y < z of ints -/
def eChain (f g : Int → Int → Bool) (o1 o2 o3 : Opd) : M Sl := fun e => bd (opsM [o1, o2] e) fun ds e1 => match ds with
  | [.int i, .int j] => if f i j then bd (opsM [o3] e1) fun es e2 => (match es with
      | [.int k] => .ok (.sh (.bl (g j k))) e2
      | _ => .bad)
    else .ok (.sh (.bl false)) e1
  | _ => .bad
/-- not x by truth -/
def eNot (o : Opd) : M Sl := eB (tNotM (tVal o))
/-- x and y by truth -/
def eAnd (o : Opd) (g : M Sl) : M Sl := fun e => bd (opsM [o] e) fun ds e' => match ds with
  | [d] => (match truD d with
    | some false => .ok (.sh d) e'
    | some true => g e'
    | none => .bad)
  | _ => .bad
section
variable {X : Cx} {F : Fr} {W : WX}
theorem OpsR.reps {z : St} {B : Hp} {e : Ev} : ∀ {os : List Opd} {vs : List V} {ds : List D}, allVal os = true → OpsR F z B e os vs ds → Reps F.K B vs ds
  | _, _, _, _, .nil => .nil
  | .val _ :: os, _, _, h, .val r t => .cons r (OpsR.reps (os := os) h t)
theorem de_v {g : List D → Option Sl} {os : List Opd} {ex : Expr} {r : List V → Hp → VK → Prop} (h : PE X ex (fun σ H Q => chain F W os σ H fun xs H2 => r xs H2 Q)) (hr : ∀ xs H Q, rGv F.K g xs H Q → r xs H Q) (hb : bors F.n os = true) (hv : allVal os = true) : PE X ex (tE F W (eN g os)) :=
  h.imp fun σ H Q ⟨B, e, y, n, S, o⟩ => by
    refine ops_run os hb n S (OutR.bd o) fun ds e1 H1 B1 vs S1 s1 o1 r1 => ?_
    obtain ⟨s, hs, k⟩ := okG_run S1 o1
    exact hr _ _ _ ⟨B1, ds, s, S1.sub, r1.reps hv, hs, k⟩
theorem de_tup {os : List Opd} {es : List Expr} {k : Nat} {pos : Pos} (h : PA X es (chain F W os)) (hb : bors F.n os = true) (hv : allVal os = true) : PE X (.Tuple es k pos) (tE F W (eN gTup os)) := by
  refine de_v (pe_tup h) (fun xs H Q ⟨B, ds, s, sb', r, hg, k⟩ => ?_) hb hv
  obtain ⟨hz, e⟩ := fits_ok hg
  cases e
  exact ⟨by rw [r.length]; exact hz, k.tup sb' r⟩
theorem de_lst {os : List Opd} {es : List Expr} {pos : Pos} (h : PA X es (chain F W os)) (hb : bors F.n os = true) (hv : allVal os = true) : PE X (.List es pos) (tE F W (eN gLst os)) := by
  refine de_v (pe_lst h) (fun xs H Q ⟨B, ds, s, sb', r, hg, k⟩ => ?_) hb hv
  obtain ⟨hz, e⟩ := fits_ok hg
  cases e
  exact ⟨by rw [r.length]; exact hz, k.lst sb' r⟩
/-- the order that an operator tells of two ints -/
def ordB : CmpOp → Option (Int → Int → Bool)
  | .Lt => some fun i j => decide (i < j)
  | .LtE => some fun i j => decide (i ≤ j)
  | .Gt => some fun i j => decide (j < i)
  | .GtE => some fun i j => decide (j ≤ i)
  | _ => none
theorem ordB_ok {op : CmpOp} {f : Int → Int → Bool} (h : ordB op = some f) : OpR X (compareOp op) (rI0 fun i j => .bl (f i j)) := by
  cases op <;> cases h
  · exact op_lt
  · exact op_le
  · exact op_gt
  · exact op_ge
theorem chain_run {f g : Int → Int → Bool} {o1 o2 o3 : Opd} {σ : St} {H : Hp} {Q : VK} (b1 : bors F.n [o1] = true) (b2 : bors F.n [o2] = true) (b3 : bors F.n [o3] = true) (h : tE F W (eChain f g o1 o2 o3) σ H Q) :
    tChain (rI0 fun i j => .bl (f i j)) (rI0 fun i j => .bl (g i j)) (tO F W o1) (tO F W o2) (tO F W o3) σ H Q := by
  obtain ⟨B, e, y, n, S, o⟩ := h
  have b12 : bors F.n [o1, o2] = true := by cases o1 <;> cases o2 <;> simp_all [bors]
  refine tO_mono o1 σ H _ _ (fun x H1 q1 => tO_mono o2 σ H1 _ _ (fun y' H2 q2 => ?_) q1) (ops_run (Q := fun xs H2 => ∃ x y', xs = [x, y'] ∧ ∃ i j, x = V.int i ∧ y' = V.int j ∧ (if f i j = true then tO F W o3 σ H2 (fun z H3 => ∃ k, z = V.int k ∧ Q (.bl (g j k)) H3) else Q (.bl false) H2)) [o1, o2] b12 n S (OutR.bd o) fun ds e1 H1 B1 vs S1 s1 k1 r1 => ?_)
  · obtain ⟨x0, y0, e0, i, j, rfl, rfl, q3⟩ := q2
    cases e0
    refine ⟨i, j, rfl, rfl, f i j, rfl, ?_⟩
    cases hf : f i j with
    | false => rw [hf] at q3; exact q3
    | true =>
      rw [hf] at q3
      exact tO_mono o3 σ H2 _ _ (fun z H3 ⟨k, ez, q⟩ => ⟨j, k, rfl, ez, q⟩) q3
  · match ds, vs, r1.repNs S1, k1 with
    | [.int i, .int j], [v1, v2], .cons q1 (.cons q2 .nil), k1 =>
      refine ⟨v1, v2, rfl, i, j, q1.int, q2.int, ?_⟩
      cases hf : f i j with
      | false => simp only [hf] at k1; exact k1 H1 B1 S1 (.refl _) _ (.bl false)
      | true =>
        simp only [hf, if_true] at k1
        rw [if_pos rfl]
        refine tO_mono o3 σ H1 _ _ (fun z H3 q3 => ?_) (ops_run (Q := fun xs H2 => ∃ z, xs = [z] ∧ ∃ k, z = V.int k ∧ Q (.bl (g j k)) H2) [o3] b3 n S1 (OutR.bd k1) fun es e2 H2 B2 ws S2 s2 k2 r2 => ?_)
        · obtain ⟨z0, e0, q⟩ := q3
          cases e0
          exact q
        · match es, ws, r2.repNs S2, k2 with
          | [.int k], [w1], .cons q3 .nil, k2 => exact ⟨w1, rfl, k, q3.int, k2 H2 B2 S2 (.refl _) _ (.bl _)⟩
theorem de_chain {op op' : CmpOp} {f g : Int → Int → Bool} {o1 o2 o3 : Opd} {a b c : Expr} {pos : Pos} (hf : ordB op = some f) (hg : ordB op' = some g) (h1 : PE X a (tO F W o1)) (h2 : PE X b (tO F W o2)) (h3 : PE X c (tO F W o3)) (b1 : bors F.n [o1] = true) (b2 : bors F.n [o2] = true) (b3 : bors F.n [o3] = true) :
    PE X (.Compare a [op, op'] [b, c] pos) (tE F W (eChain f g o1 o2 o3)) := by
  have m1 : behindInMarks op b = false := nomark b (by intro e; subst e; cases hf) (by intro e; subst e; cases hf)
  have m2 : behindInMarks op' c = false := nomark c (by intro e; subst e; cases hg) (by intro e; subst e; cases hg)
  refine (pe_chain (ordB_ok hf) (ordB_ok hg) h1 h2 h3 (by show behindInMarks op' c = false; exact m2)).imp fun σ H Q q => chain_run b1 b2 b3 q
theorem dt_chain {op op' : CmpOp} {f g : Int → Int → Bool} {o1 o2 o3 : Opd} {a b c : Expr} {pos : Pos} (hf : ordB op = some f) (hg : ordB op' = some g) (h1 : PE X a (tO F W o1)) (h2 : PE X b (tO F W o2)) (h3 : PE X c (tO F W o3)) (b1 : bors F.n [o1] = true) (b2 : bors F.n [o2] = true) (b3 : bors F.n [o3] = true) :
    PT X (.Compare a [op, op'] [b, c] pos) (tT F W (tB1 (eChain f g o1 o2 o3))) := by
  have m2 : behindInMarks op' c = false := nomark c (by intro e; subst e; cases hg) (by intro e; subst e; cases hg)
  exact dt_b1 (pt_chain (ordB_ok hf) (ordB_ok hg) h1 h2 h3 (by show behindInMarks op' c = false; exact m2)) fun σ H Q q => chain_run b1 b2 b3 q
/-- not, and, or by truth -/
theorem tVal_run {o : Opd} {σ y : St} {H B : Hp} {e : Ev} {k : Bool → Ev → Hp → Hp → Prop} {Q : VK} (hK : F.K = X.K) (hb : bors F.n [o] = true) (n : σ.length = F.n) (S : SR F (σ ++ y) H B e) (q : OutR F W σ (σ ++ y) B (tVal o e) k)
    (f : ∀ x b e' H' B', SR F (σ ++ y) H' B' e' → Sub B B' → TruV X.K x H' b → k b e' H' B' → Q x H') : tO F W o σ H Q := by
  refine ops_run (W := W) [o] (Q := fun vs H' => ∃ x, vs = [x] ∧ Q x H') hb n S (OutR.bd q) (fun ds e' H' B' vs S' s' k1 r => ?_) |> fun z => tO_mono o σ H _ _ (fun v H1 ⟨x, e1, q1⟩ => by cases e1; exact q1) z
  match ds, vs, r.repNs S', k1 with
  | [d], [v], .cons r1 .nil, k1 =>
    have k' : OutR F W σ (σ ++ y) B' (match truD d with | some b => R.ok b e' | none => R.bad) k := k1
    cases ht : truD d with
    | none => rw [ht] at k'; exact k'.elim
    | some b =>
      rw [ht] at k'
      exact ⟨v, rfl, f v b e' H' B' S' s' (by rw [← hK]; exact truD_ok S'.sub r1 ht) (k' H' B' S' (.refl _))⟩
  | [], [], .nil, k1 => exact k1.elim
  | _ :: _ :: _, _, .cons _ (.cons _ _), k1 => exact k1.elim
theorem de_notV {o : Opd} {a : Expr} {pos : Pos} (hK : F.K = X.K) (hb : bors F.n [o] = true) (h : PE X a (tO F W o)) : PE X (.UnaryOp .Not a pos) (tE F W (eNot o)) :=
  (pe_notT h).imp fun σ H Q ⟨B, e, y, n, S, q⟩ => tVal_run hK hb n S (OutR.bd (OutR.bd q)) fun x b e' H' B' S' s' tr k => ⟨b, tr, k H' B' S' (.refl _) H' B' S' (.refl _) _ (.bl _)⟩
end

/-! ### x or y, x and y -/
section
variable {X : Cx} {F : Fr} {W : WX}
theorem and_run {o : Opd} {g : M Sl} {σ y : St} {H B : Hp} {e : Ev} {Q : VK} (v : Bool) {f : M Sl} (hf : f = (if v then eOr o g else eAnd o g)) (hb : bors F.n [o] = true) (ho : allVal [o] = true) (n : σ.length = F.n) (S : SR F (σ ++ y) H B e) (q : OutR F W σ (σ ++ y) B (f e) fun s e' H' B' => ∀ v, SlV F (σ ++ y) e' H' B' s v → Q v H') :
    tO F W o σ H fun x H1 => ∃ k, TruV F.K x H1 k ∧ if k = v then Q x H1 else tE F W g σ H1 Q := by
  subst hf
  have q' : OutR F W σ (σ ++ y) B (bd (opsM [o] e) fun ds e' => match ds with
    | [d] => (match truD d with
      | some b => if b = v then R.ok (.sh d) e' else g e'
      | none => .bad)
    | _ => .bad) fun s e' H' B' => ∀ v, SlV F (σ ++ y) e' H' B' s v → Q v H' := by
    cases v with
    | true =>
      have e1 : (fun ds (e' : Ev) => match (ds : List D) with
        | [d] => (match truD d with
          | some true => R.ok (Sl.sh d) e'
          | some false => g e'
          | none => .bad)
        | _ => .bad) = fun ds e' => match ds with
        | [d] => (match truD d with
          | some b => if b = true then R.ok (.sh d) e' else g e'
          | none => .bad)
        | _ => .bad := by
        funext ds e'
        match ds with
        | [] => rfl
        | [d] =>
          show (match truD d with | some true => R.ok (Sl.sh d) e' | some false => g e' | none => .bad) = (match truD d with | some b => if b = true then R.ok (.sh d) e' else g e' | none => .bad)
          cases truD d with
          | none => rfl
          | some b => cases b <;> rfl
        | _ :: _ :: _ => rfl
      rw [← e1]
      exact q
    | false =>
      have e1 : (fun ds (e' : Ev) => match (ds : List D) with
        | [d] => (match truD d with
          | some false => R.ok (Sl.sh d) e'
          | some true => g e'
          | none => .bad)
        | _ => .bad) = fun ds e' => match ds with
        | [d] => (match truD d with
          | some b => if b = false then R.ok (.sh d) e' else g e'
          | none => .bad)
        | _ => .bad := by
        funext ds e'
        match ds with
        | [] => rfl
        | [d] =>
          show (match truD d with | some false => R.ok (Sl.sh d) e' | some true => g e' | none => .bad) = (match truD d with | some b => if b = false then R.ok (.sh d) e' else g e' | none => .bad)
          cases truD d with
          | none => rfl
          | some b => cases b <;> rfl
        | _ :: _ :: _ => rfl
      rw [← e1]
      exact q
  refine ops_run (W := W) [o] (Q := fun vs H1 => ∃ x, vs = [x] ∧ ∃ k, TruV F.K x H1 k ∧ if k = v then Q x H1 else tE F W g σ H1 Q) hb n S (OutR.bd q') (fun ds e' H' B' vs S' s' k1 r => ?_) |> fun z => tO_mono o σ H _ _ (fun v H1 ⟨x, e1, q1⟩ => by cases e1; exact q1) z
  match ds, vs, r.reps ho, k1 with
  | [d], [x], .cons r1 .nil, k1 =>
    refine ⟨x, rfl, ?_⟩
    have k' : OutR F W σ (σ ++ y) B' (match truD d with | some b => if b = v then R.ok (.sh d) e' else g e' | none => R.bad) _ := k1
    cases ht : truD d with
    | none => rw [ht] at k'; exact k'.elim
    | some b =>
      rw [ht] at k'
      refine ⟨b, truD_ok S'.sub (.inl r1) ht, ?_⟩
      by_cases hbv : b = v
      · rw [if_pos hbv]
        have k' : OutR F W σ (σ ++ y) B' (if b = v then R.ok (.sh d) e' else g e') _ := k'
        rw [if_pos hbv] at k'
        exact k' H' B' S' (.refl _) x r1
      · rw [if_neg hbv]
        have k' : OutR F W σ (σ ++ y) B' (if b = v then R.ok (.sh d) e' else g e') _ := k'
        rw [if_neg hbv] at k'
        exact ⟨B', e', y, n, S', k'⟩
  | [], [], .nil, k1 => exact k1.elim
  | _ :: _ :: _, _, .cons _ (.cons _ _), k1 => exact k1.elim
end
end DL

end
section
set_option maxRecDepth 100000
set_option maxHeartbeats 2000000
/-! DB1: built-in functions on data. -/
namespace DL
open PySem PySem.Spec PyProof.Rows L2

def intsD : List D → Option (List Int)
  | [] => some []
  | .int i :: ds => (intsD ds).map (i :: ·)
  | _ :: _ => none
def blsD : List D → Option (List Bool)
  | [] => some []
  | .bl i :: ds => (blsD ds).map (i :: ·)
  | _ :: _ => none
def gAbs : D → Option Sl
  | .int i => si (if i < 0 then -i else i)
  | _ => none
def gDivmod : D → D → Option Sl
  | .int a, .int b => if decide (0 < b ∧ b < 1073741824) then st [.int (a / b), .int (a % b)] else none
  | _, _ => none
def maxI : Int → List Int → Int
  | m, [] => m
  | m, i :: is => maxI (if m < i then i else m) is
def minI : Int → List Int → Int
  | m, [] => m
  | m, i :: is => minI (if i < m then i else m) is
def onInts (ds : List D) (f : List Int → Option Sl) : Option Sl := match intsD ds with
  | some ns => f ns
  | none => none
def gMax : List D → Option Sl
  | [.int i, .int j] => si (if j > i then j else i)
  | [.lst ds] => onInts ds fun ns => match ns with
    | [] => none
    | n :: ns => si (maxI n ns)
  | _ => none
def gMin : List D → Option Sl
  | [.int i, .int j] => si (if j < i then j else i)
  | [.lst ds] => onInts ds fun ns => match ns with
    | [] => none
    | n :: ns => si (minI n ns)
  | _ => none
def gInt : D → Option Sl
  | .int i => si i
  | .bl b => si (if b then 1 else 0)
  | .str x => if x.length ≤ 640 then (match PySem.intText? x with
    | some n => si n
    | none => none) else none
  | _ => none
def gTupOf : D → Option Sl
  | .lst ds => st ds
  | .rol ds => st ds
  | .tup ds => st ds
  | _ => none
def gLstOf : D → Option Sl
  | .lst ds => sl ds
  | .rol ds => sl ds
  | .tup ds => sl ds
  | .dk ks _ => sl (ks.map kD)
  | .dt ks _ => sl (ks.map fun k => .tup (k.map kD))
  | _ => none
def gAll : D → Option Sl
  | .lst ds => (match blsD ds with
    | some bs => sb (bs.all id)
    | none => none)
  | _ => none
def gAny : D → Option Sl
  | .lst ds => (match blsD ds with
    | some bs => sb (bs.any id)
    | none => none)
  | _ => none
def gSum : D → Option Sl
  | .lst ds => onInts ds fun ns => si ns.sum
  | _ => none
def gStr : D → Option Sl
  | .int i => if i.natAbs.log2 < 1920 then ss (toString i) else none
  | _ => none
section
variable {X : Cx} {K : PySem.W.Frag} {B H : Hp}
theorem intsD_reps : ∀ {xs : List V} {ds : List D} {ns : List Int}, Reps K B xs ds → intsD ds = some ns → xs = ns.map V.int
  | _, _, _, .nil, h => by cases h; rfl
  | _, .int i :: ds, ns, .cons r t, h => by
    cases r
    cases h2 : intsD ds with
    | none => simp [intsD, h2] at h
    | some ms => simp [intsD, h2] at h; subst h; rw [intsD_reps t h2]; rfl
theorem blsD_reps : ∀ {xs : List V} {ds : List D} {ns : List Bool}, Reps K B xs ds → blsD ds = some ns → xs = ns.map V.bl
  | _, _, _, .nil, h => by cases h; rfl
  | _, .bl i :: ds, ns, .cons r t, h => by
    cases r
    cases h2 : blsD ds with
    | none => simp [blsD, h2] at h
    | some ms => simp [blsD, h2] at h; subst h; rw [blsD_reps t h2]; rfl
theorem onInts_ok {ds : List D} {f : List Int → Option Sl} {s : Sl} (h : onInts ds f = some s) : ∃ ns, intsD ds = some ns ∧ f ns = some s := by
  unfold onInts at h
  split at h
  · exact ⟨_, by assumption, h⟩
  · cases h
theorem cg_abs : CallR X (.builtin "abs") (rG X.K (gg1 gAbs)) := by
  intro pins s σ H xs us Q I r h
  obtain ⟨x, rfl, B, a, q, sb', ra, hg, k⟩ := rG.one h
  match a, ra, hg with
  | .int i, ra, hg => cases ra.int; cases hg; exact call_abs pins s σ H _ us Q I r ⟨i, rfl, k.int sb'⟩
theorem cg_divmod : CallR X (.builtin "divmod") (rG X.K (gg2 gDivmod)) := by
  intro pins s σ H xs us Q I r h
  obtain ⟨x, y, rfl, B, a, b, q, sb', ra, rb, hg, k⟩ := rG.two h
  match a, b, ra, rb, hg with
  | .int i, .int j, ra, rb, hg =>
    cases ra.int; cases rb.int
    obtain ⟨c, e⟩ := ifT hg
    cases e
    have c : 0 < j ∧ j < 1073741824 := of_decide_eq_true c
    exact call_divmod pins s σ H _ us Q I r ⟨i, j, rfl, c, k.tup sb' (.cons (.int _) (.cons (.int _) .nil))⟩
theorem maxI_ge : ∀ (ns : List Int) (m : Int), m ≤ maxI m ns ∧ (∀ y ∈ ns, y ≤ maxI m ns) ∧ (maxI m ns = m ∨ maxI m ns ∈ ns)
  | [], m => ⟨Int.le_refl _, by simp, .inl rfl⟩
  | i :: ns, m => by
    unfold maxI
    by_cases c : m < i
    · rw [if_pos c]
      obtain ⟨h1, h2, h3⟩ := maxI_ge ns i
      exact ⟨by omega, fun y hy => (List.mem_cons.mp hy).elim (fun e => by omega) (h2 y), .inr (h3.elim (fun e => by rw [e]; exact List.mem_cons_self) (List.mem_cons_of_mem _))⟩
    · rw [if_neg c]
      obtain ⟨h1, h2, h3⟩ := maxI_ge ns m
      exact ⟨h1, fun y hy => (List.mem_cons.mp hy).elim (fun e => by omega) (h2 y), h3.imp id (List.mem_cons_of_mem _)⟩
theorem minI_le : ∀ (ns : List Int) (m : Int), minI m ns ≤ m ∧ (∀ y ∈ ns, minI m ns ≤ y) ∧ (minI m ns = m ∨ minI m ns ∈ ns)
  | [], m => ⟨Int.le_refl _, by simp, .inl rfl⟩
  | i :: ns, m => by
    unfold minI
    by_cases c : i < m
    · rw [if_pos c]
      obtain ⟨h1, h2, h3⟩ := minI_le ns i
      exact ⟨by omega, fun y hy => (List.mem_cons.mp hy).elim (fun e => by omega) (h2 y), .inr (h3.elim (fun e => by rw [e]; exact List.mem_cons_self) (List.mem_cons_of_mem _))⟩
    · rw [if_neg c]
      obtain ⟨h1, h2, h3⟩ := minI_le ns m
      exact ⟨h1, fun y hy => (List.mem_cons.mp hy).elim (fun e => by omega) (h2 y), h3.imp id (List.mem_cons_of_mem _)⟩
theorem cg_max (hc : X.calm = true) : CallR X (.builtin "max") (rG X.K gMax) := by
  intro pins s σ H xs us Q I r ⟨B, ds, q, sb', rn, hg, k⟩
  match ds, rn, hg with
  | [.int i, .int j], .cons ra (.cons rb .nil), hg => cases ra.int; cases rb.int; cases hg; exact call_max2 hc pins s σ H _ us Q I r ⟨i, j, rfl, k.int sb'⟩
  | [.lst ds], .cons ra .nil, hg =>
    obtain ⟨a, ys, rfl, h1, h2⟩ := ra.lst sb'
    obtain ⟨ns, e1, e2⟩ := onInts_ok hg
    have ey := intsD_reps h2 e1
    match ns, e2 with
    | n :: ns, e2 =>
      cases e2
      refine cr_max hc pins s σ H _ us Q I r ⟨a, n :: ns, rfl, by rw [← ey]; exact .of h1, by simp, fun m hm hy => ?_⟩
      obtain ⟨g1, g2, g3⟩ := maxI_ge ns n
      have : m = maxI n ns := by
        have h3 : m ≤ maxI n ns := by
          rcases List.mem_cons.mp hm with e | hm
          · omega
          · exact g2 m hm
        have h4 : maxI n ns ≤ m := by
          rcases g3 with e | hm'
          · rw [e]; exact hy n List.mem_cons_self
          · exact hy _ (List.mem_cons_of_mem _ hm')
        omega
      rw [this]
      exact k.int sb'
theorem cg_min (hc : X.calm = true) : CallR X (.builtin "min") (rG X.K gMin) := by
  intro pins s σ H xs us Q I r ⟨B, ds, q, sb', rn, hg, k⟩
  match ds, rn, hg with
  | [.int i, .int j], .cons ra (.cons rb .nil), hg => cases ra.int; cases rb.int; cases hg; exact call_min2 hc pins s σ H _ us Q I r ⟨i, j, rfl, k.int sb'⟩
  | [.lst ds], .cons ra .nil, hg =>
    obtain ⟨a, ys, rfl, h1, h2⟩ := ra.lst sb'
    obtain ⟨ns, e1, e2⟩ := onInts_ok hg
    have ey := intsD_reps h2 e1
    match ns, e2 with
    | n :: ns, e2 =>
      cases e2
      refine cr_min hc pins s σ H _ us Q I r ⟨a, n :: ns, rfl, by rw [← ey]; exact .of h1, by simp, fun m hm hy => ?_⟩
      obtain ⟨g1, g2, g3⟩ := minI_le ns n
      have : m = minI n ns := by
        have h3 : minI n ns ≤ m := by
          rcases List.mem_cons.mp hm with e | hm
          · omega
          · exact g2 m hm
        have h4 : m ≤ minI n ns := by
          rcases g3 with e | hm'
          · rw [e]; exact hy n List.mem_cons_self
          · exact hy _ (List.mem_cons_of_mem _ hm')
        omega
      rw [this]
      exact k.int sb'
theorem cg_int : CallR X (.type "int") (rG X.K (gg1 gInt)) := by
  intro pins s σ H xs us Q I r h
  obtain ⟨x, rfl, B, a, q, sb', ra, hg, k⟩ := rG.one h
  match a, ra, hg with
  | .int i, ra, hg => cases ra.int; cases hg; exact call_int1 pins s σ H _ us Q I r (.inl ⟨i, rfl, k.int sb'⟩)
  | .bl i, ra, hg => cases ra.bl; cases hg; exact call_int1 pins s σ H _ us Q I r (.inr ⟨i, rfl, k.int sb'⟩)
  | .str z, ra, hg =>
    cases ra.str
    have hg : (if z.length ≤ 640 then (match PySem.intText? z with | some n => si n | none => none) else none) = some q := hg
    by_cases hz : z.length ≤ 640
    · rw [if_pos hz] at hg
      cases hn : PySem.intText? z with
      | none => rw [hn] at hg; cases hg
      | some n => rw [hn] at hg; cases hg; exact call_int_str pins s σ H _ us Q I r ⟨z, n, rfl, hn, hz, k.int sb'⟩
    · rw [if_neg hz] at hg; cases hg
theorem cg_tuple : CallR X (.type "tuple") (rG X.K (gg1 gTupOf)) := by
  intro pins s σ H xs us Q I r h
  obtain ⟨x, rfl, B, a, q, sb', ra, hg, k⟩ := rG.one h
  refine call_tuple_of pins s σ H _ us Q I r ?_
  match a, ra, hg with
  | .lst ds, ra, hg => obtain ⟨p, ys, rfl, h1, h2⟩ := ra.lst sb'; cases hg; exact ⟨p, ys, rfl, .inl ⟨.of h1, k.tup sb' h2⟩⟩
  | .rol ds, ra, hg => obtain ⟨p, ys, rfl, h1, _, h2⟩ := ra.rol sb'; cases hg; exact ⟨p, ys, rfl, .inl ⟨h1, k.tup sb' h2⟩⟩
  | .tup ds, ra, hg => obtain ⟨p, ys, rfl, h1, h1b, h2⟩ := ra.tup sb'; cases hg; exact ⟨p, ys, rfl, .inr ⟨h1, k.sh sb' (.tup h1b h2)⟩⟩
theorem cg_list (hc : X.calm = true) : CallR X (.type "list") (rG X.K (gg1 gLstOf)) := by
  intro pins s σ H xs us Q I r h
  obtain ⟨x, rfl, B, a, q, sb', ra, hg, k⟩ := rG.one h
  by_cases hd : ∃ ks vs, a = .dk ks vs
  · obtain ⟨ks, vs, rfl⟩ := hd
    obtain ⟨p, kvs, rfl, e1, e2, e3⟩ := ra.dk sb'
    cases hg
    refine call_listD hc pins s σ H _ us Q I r ⟨p, kvs, rfl, e1, fun l hl => ?_⟩
    refine k.lst sb' ?_ l hl
    subst e2
    have go : ∀ kvs : List (Key × V), Reps X.K B (kvs.map fun kv => kV kv.1) ((kvs.map (·.1)).map kD) := fun kvs => by
      induction kvs with
      | nil => exact .nil
      | cons a l ih => exact .cons (rep_key _) ih
    exact go kvs
  by_cases hd' : ∃ ks vs, a = .dt ks vs
  · obtain ⟨ks, vs, rfl⟩ := hd'
    obtain ⟨p, kvs, rfl, e1, e2, e3⟩ := ra.dt sb'
    cases hg
    refine call_list_dT hc pins s σ H _ us Q I r ⟨p, kvs, rfl, e1, fun l bs hl hb => ?_⟩
    obtain ⟨B', a1, r1, n1⟩ := keys_al (K := X.K) sb' hb
    subst e2
    have s1 : Sub H (upd H l (.lst (bs.map V.ref))) := Sub.upd hl
    exact k l _ B' ⟨s1, a1.subB, a1.sub'.trans s1, fun b hb => a1.nw b hb⟩ hl (n1 l hl) ⟨_, upd_same, r1⟩
  refine call_list_of pins s σ H _ us Q I r ?_
  match a, ra, hg, hd, hd' with
  | .lst ds, ra, hg, _, _ => obtain ⟨p, ys, rfl, h1, h2⟩ := ra.lst sb'; cases hg; exact ⟨p, ys, rfl, .inl (.of h1), k.lst sb' h2⟩
  | .rol ds, ra, hg, _, _ => obtain ⟨p, ys, rfl, h1, _, h2⟩ := ra.rol sb'; cases hg; exact ⟨p, ys, rfl, .inl h1, k.lst sb' h2⟩
  | .tup ds, ra, hg, _, _ => obtain ⟨p, ys, rfl, h1, h1b, h2⟩ := ra.tup sb'; cases hg; exact ⟨p, ys, rfl, .inr h1, k.lst sb' h2⟩
  | .dk ks vs, ra, hg, hd, _ => exact absurd ⟨ks, vs, rfl⟩ hd
  | .dt ks vs, ra, hg, _, hd => exact absurd ⟨ks, vs, rfl⟩ hd
theorem cg_all (hc : X.calm = true) : CallR X (.builtin "all") (rG X.K (gg1 gAll)) := by
  intro pins s σ H xs us Q I r h
  obtain ⟨x, rfl, B, a, q, sb', ra, hg, k⟩ := rG.one h
  match a, ra, hg with
  | .lst ds, ra, hg =>
    obtain ⟨p, ys, rfl, h1, h2⟩ := ra.lst sb'
    have hg : (match blsD ds with | some bs => sb (bs.all id) | none => none) = some q := hg
    cases hb : blsD ds with
    | none => rw [hb] at hg; cases hg
    | some bs => rw [hb] at hg; cases hg; exact cr_all hc pins s σ H _ us Q I r ⟨p, bs, rfl, by rw [← blsD_reps h2 hb]; exact .of h1, k.bl sb'⟩
theorem cg_any (hc : X.calm = true) : CallR X (.builtin "any") (rG X.K (gg1 gAny)) := by
  intro pins s σ H xs us Q I r h
  obtain ⟨x, rfl, B, a, q, sb', ra, hg, k⟩ := rG.one h
  match a, ra, hg with
  | .lst ds, ra, hg =>
    obtain ⟨p, ys, rfl, h1, h2⟩ := ra.lst sb'
    have hg : (match blsD ds with | some bs => sb (bs.any id) | none => none) = some q := hg
    cases hb : blsD ds with
    | none => rw [hb] at hg; cases hg
    | some bs => rw [hb] at hg; cases hg; exact cr_any hc pins s σ H _ us Q I r ⟨p, bs, rfl, by rw [← blsD_reps h2 hb]; exact .of h1, k.bl sb'⟩
theorem cg_sum (hc : X.calm = true) : CallR X (.builtin "sum") (rG X.K (gg1 gSum)) := by
  intro pins s σ H xs us Q I r h
  obtain ⟨x, rfl, B, a, q, sb', ra, hg, k⟩ := rG.one h
  match a, ra, hg with
  | .lst ds, ra, hg =>
    obtain ⟨p, ys, rfl, h1, h2⟩ := ra.lst sb'
    obtain ⟨ns, e1, e2⟩ := onInts_ok hg
    cases e2
    exact cr_sum hc pins s σ H _ us Q I r ⟨p, ns, rfl, by rw [← intsD_reps h2 e1]; exact .of h1, k.int sb'⟩
theorem cg_str : CallR X (.type "str") (rG X.K (gg1 gStr)) := by
  intro pins s σ H xs us Q I r h
  obtain ⟨x, rfl, B, a, q, sb', ra, hg, k⟩ := rG.one h
  match a, ra, hg with
  | .int i, ra, hg =>
    cases ra.int
    have hg : (if i.natAbs.log2 < 1920 then ss (toString i) else none) = some q := hg
    by_cases hz : i.natAbs.log2 < 1920
    · rw [if_pos hz] at hg; cases hg; exact call_str_int pins s σ H _ us Q I r ⟨i, rfl, hz, k.str sb'⟩
    · rw [if_neg hz] at hg; cases hg
end
end DL

end
section
set_option maxRecDepth 100000
set_option maxHeartbeats 2000000
/-! DB2: equality, membership, isinstance of a built-in class, repr, sorted. -/
namespace DL
open PySem PySem.Spec PyProof.Rows L2

mutual
/-- the library's datum -/
def D.py : D → PyData
  | .non => .none
  | .bl b => .bool b
  | .int i => .int i
  | .str x => .str x
  | .tup ds => .tuple (pys ds)
  | .lst ds => .list (pys ds)
  | .rol ds => .list (pys ds)
  | .dk _ _ => .dict []
  | .dt _ _ => .dict []
def pys : List D → List PyData
  | [] => []
  | d :: ds => d.py :: pys ds
end
theorem pys_map : ∀ ds : List D, pys ds = ds.map D.py
  | [] => rfl
  | d :: ds => by rw [pys, pys_map ds]; rfl
section
variable {X : Cx} {K : PySem.W.Frag} {B H : Hp}
mutual
theorem Rep.dp (s : Sub B H) : ∀ {v : V} {d : D}, Rep K B v d → d.py.canLay0 = true → Dp K H v d.py
  | _, _, .non, _ => .non
  | _, _, .bl b, _ => .bl b
  | _, _, .int i, _ => .int i
  | _, _, .str x, _ => .str x
  | _, _, .tup (ds := ds) h r, c => .tup (.inl (.inl (s _ _ h))) (Reps.dp s r (by simpa [D.py, PyData.canLay0] using c))
  | _, _, .lst (ds := ds) h r, c => .lst (.of (s _ _ h)) (Reps.dp s r (by simpa [D.py, PyData.canLay0] using c))
  | _, _, .rol (ds := ds) h r, c => .lst (s.seqL h) (Reps.dp s r (by simpa [D.py, PyData.canLay0] using c))
  | _, _, .dk _ _ _, c => by simp [D.py, PyData.canLay0] at c
  | _, _, .dt _ _ _, c => by simp [D.py, PyData.canLay0] at c
theorem Reps.dp (s : Sub B H) : ∀ {vs : List V} {ds : List D}, Reps K B vs ds → PyData.canLayAll0 (pys ds) = true → DpAll K H vs (pys ds)
  | _, _, .nil, _ => .nil
  | _, _, .cons (d := d) (ds := ds) h r, c => by
    have c' : (PyData.canLay0 d.py && PyData.canLayAll0 (pys ds)) = true := by simpa [pys, PyData.canLayAll0] using c
    obtain ⟨c1, c2⟩ := Bool.and_eq_true_iff.mp c'
    exact .cons (Rep.dp s h c1) (Reps.dp s r c2)
end
theorem RepN.dp {v : V} {d : D} (s : Sub B H) (h : RepN K H B v d) (c : d.py.canLay0 = true) : Dp K H v d.py := by
  rcases h with h | ⟨p, rfl, n, h⟩
  · exact h.dp s c
  · cases d with
    | lst ds => obtain ⟨xs, h1, h2⟩ := h; exact .lst (.of h1) (h2.dp s (by simpa [D.py, PyData.canLay0] using c))
    | dk _ _ => simp [D.py, PyData.canLay0] at c
    | dt _ _ => simp [D.py, PyData.canLay0] at c
    | _ => exact h.elim
/-! ### == != in not in -/
def shp (d : D) : Bool := SeqAt.shaped d.py
theorem shp_lay {d : D} (h : shp d = true) : d.py.canLay0 = true := SeqAt.canLay_of_shaped h
def gEq (a b : D) : Option Sl := if shp a && shp b then sb (PyData.eqv a.py b.py) else none
def gNe (a b : D) : Option Sl := if shp a && shp b then sb (!PyData.eqv a.py b.py) else none
def itemsD : D → Option (List D)
  | .tup ds => some ds
  | .lst ds => some ds
  | .rol ds => some ds
  | _ => none
def inD (a : D) (ds : List D) : Bool := ds.any fun z => PyData.eqv z.py a.py
def subStr (a b : Str) : Bool := !(Builtin.Str.occurrences b a 0 b.length 1).isEmpty
def gIn0 (a b : D) : Option Sl := match a, b with
  | .str x, .str y => sb (subStr x y)
  | a, b => (match itemsD b with
    | some ds => if shp a && shp b then sb (inD a ds) else none
    | none => none)
def gIn (a b : D) : Option Sl := match dLook b a with
  | some o => sb o.isSome
  | none => gIn0 a b
def gNin0 (a b : D) : Option Sl := match a, b with
  | .str x, .str y => sb (!subStr x y)
  | a, b => (match itemsD b with
    | some ds => if shp a && shp b then sb (!inD a ds) else none
    | none => none)
def gNin (a b : D) : Option Sl := match dLook b a with
  | some o => sb (!o.isSome)
  | none => gNin0 a b
theorem og_eq (hu : X.A.units + 64 < cLine) : OpR X (compareOp .Eq) (rG2 X.K gEq) := by
  intro pins s σ H x y v u Q I rx ry ⟨B, a, b, r, sb', ra, rb, hg, k⟩
  obtain ⟨c, e⟩ := ifT hg
  obtain ⟨c1, c2⟩ := Bool.and_eq_true_iff.mp c
  cases e
  exact op_eqD hu pins s σ H _ _ v u Q I rx ry ⟨_, _, ra.dp sb' (shp_lay c1), rb.dp sb' (shp_lay c2), c1, c2, k.bl sb'⟩
theorem og_ne (hu : X.A.units + 64 < cLine) : OpR X (compareOp .NotEq) (rG2 X.K gNe) := by
  intro pins s σ H x y v u Q I rx ry ⟨B, a, b, r, sb', ra, rb, hg, k⟩
  obtain ⟨c, e⟩ := ifT hg
  obtain ⟨c1, c2⟩ := Bool.and_eq_true_iff.mp c
  cases e
  exact op_neD hu pins s σ H _ _ v u Q I rx ry ⟨_, _, ra.dp sb' (shp_lay c1), rb.dp sb' (shp_lay c2), c1, c2, k.bl sb'⟩
theorem inD_any (a : D) (ds : List D) : ((pys ds).any fun z => PyData.eqv z a.py) = inD a ds := by
  rw [pys_map, List.any_map]; rfl
/-- what In, NotIn say of data that are no texts -/
theorem in_data {neg : Bool} {op : CmpOp} (hop : op = if neg then .NotIn else .In) (hu : X.A.units + 65 < cLine) {pins : List (Addr × Obj)} {s : Shared} {σ : St} {x y : V} {v u : Value} {Q : VK} (I : Inv X pins σ H s) (rx : RelV x v) (ry : RelV y u) (sb' : Sub B H) {a b : D} {ds : List D} {q : Sl}
    (ra : RepN X.K H B x a) (rb : RepN X.K H B y b) (hi : itemsD b = some ds) (hg : (if shp a && shp b then sb (if neg then !inD a ds else inD a ds) else none) = some q) (k : ResG X.K B H Q q) : wpAny (model X.prog X.w) X.A (compareOp op v u) (EP X pins σ Q) X.xe s := by
  obtain ⟨c, e⟩ := ifT hg
  obtain ⟨c1, c2⟩ := Bool.and_eq_true_iff.mp c
  cases e
  obtain ⟨as, r1⟩ := Dp.reads I _ x v (ra.dp sb' (shp_lay c1)) rx
  obtain ⟨bs, r2⟩ := Dp.reads I _ y u (rb.dp sb' (shp_lay c2)) ry
  have kb : Q (.bl (if neg then !inD a ds else inD a ds)) H := k.bl sb'
  have l2 := shp_lay c2
  have both : (b.py = .list (pys ds) ∨ b.py = .tuple (pys ds)) := by
    cases b <;> cases hi
    · exact .inr rfl
    · exact .inl rfl
    · exact .inl rfl
  have lay : PyData.canLayAll0 (pys ds) = true := by
    rcases both with e | e <;> rw [e] at l2 <;> simpa [PyData.canLay0] using l2
  have fin : ∀ {t : Bool}, t = (if neg then !inD a ds else inD a ds) → EP X pins σ Q (.bool t) s := fun {t} e => ⟨.bl t, H, I, rfl, by rw [e]; exact kb⟩
  cases neg with
  | false =>
    subst hop
    rcases both with e | e
    · rw [e] at r2; exact SeqAt.in_list_reads r2 r1 lay (shp_lay c1) (room_in_shaped c1 hu) (fin (inD_any a ds))
    · rw [e] at r2; exact SeqAt.in_tuple_reads r2 r1 lay (shp_lay c1) (room_in_shaped c1 hu) (fin (inD_any a ds))
  | true =>
    subst hop
    rcases both with e | e
    · rw [e] at r2; exact SeqAt.notIn_list_reads r2 r1 lay (shp_lay c1) (room_in_shaped c1 hu) (fin (by rw [inD_any]; rfl))
    · rw [e] at r2; exact SeqAt.notIn_tuple_reads r2 r1 lay (shp_lay c1) (room_in_shaped c1 hu) (fin (by rw [inD_any]; rfl))
theorem og_in (hu : X.A.units + 65 < cLine) : OpR X (compareOp .In) (rG2 X.K gIn) := by
  intro pins s σ H x y v u Q I rx ry ⟨B, a, b, r, sb', ra, rb, hg, k⟩
  unfold gIn at hg
  split at hg
  · rename_i o hl
    obtain ⟨p, ov, rfl, g, e, _⟩ := dLook_ok sb' rb ra hl
    cases (show u = Value.ref p from ry)
    cases hg
    exact d_in (by omega) I g rx fun s3 I3 => ⟨.bl ov.isSome, H, I3, rfl, by rw [e]; exact k.bl sb'⟩
  unfold gIn0 at hg
  split at hg
  · cases ra.str; cases rb.str; cases hg
    exact op_in_str pins s σ H _ _ v u Q I rx ry ⟨_, _, rfl, rfl, k.bl sb'⟩
  · split at hg
    · exact in_data (neg := false) rfl hu I rx ry sb' ra rb (by assumption) hg k
    · cases hg
theorem og_nin (hu : X.A.units + 65 < cLine) : OpR X (compareOp .NotIn) (rG2 X.K gNin) := by
  intro pins s σ H x y v u Q I rx ry ⟨B, a, b, r, sb', ra, rb, hg, k⟩
  unfold gNin at hg
  split at hg
  · rename_i o hl
    obtain ⟨p, ov, rfl, g, e, _⟩ := dLook_ok sb' rb ra hl
    cases (show u = Value.ref p from ry)
    cases hg
    exact d_notIn (by omega) I g rx fun s3 I3 => ⟨.bl (!ov.isSome), H, I3, rfl, by rw [e]; exact k.bl sb'⟩
  unfold gNin0 at hg
  split at hg
  · cases ra.str; cases rb.str; cases hg
    exact op_notin_str pins s σ H _ _ v u Q I rx ry ⟨_, _, rfl, rfl, k.bl sb'⟩
  · split at hg
    · exact in_data (neg := true) rfl hu I rx ry sb' ra rb (by assumption) hg k
    · cases hg

/-! ### isinstance(x, T), T a built-in class by its name -/
def tyD : D → String
  | .non => "NoneType"
  | .bl _ => "bool"
  | .int _ => "int"
  | .str _ => "str"
  | .tup _ => "tuple"
  | .lst _ => "list"
  | .rol _ => "list"
  | .dk _ _ => "dict"
  | .dt _ _ => "dict"
/-- is a thing of this class an instance of T -/
def isTy (t : String) : String → Bool := fun T => t == T || (t == "bool" && T == "int")
def tyOk (T : String) : Bool := ["int", "bool", "str", "tuple", "list", "dict"].contains T
theorem SqL.tyx {a : Addr} {xs : List V} (h : SqL K H a xs) : TyX K H (.ref a) (.type "list") := by
  rcases h with (h | ⟨o, h⟩) | ⟨o, its, n, h, hc, _⟩
  · exact .base (.lst h)
  · exact .base (.frz h)
  · exact .kList h hc
theorem SqT.tyx {a : Addr} {xs : List V} (h : SqT K H a xs) : TyX K H (.ref a) (.type "tuple") := by
  rcases h with (h | ⟨o, h⟩) | ⟨o, its, n, h, hc, _⟩
  · exact .base (.tup h)
  · exact .fTuple h
  · exact .kTuple h hc
theorem RepN.tyx {x : V} {d : D} (s : Sub B H) (h : RepN K H B x d) (nd : ∀ ks vs, d ≠ .dt ks vs) : TyX K H x (.type (tyD d)) := by
  cases d with
  | non => cases h.non; exact .base .non
  | bl b => cases h.bl; exact .base (.bl b)
  | int i => cases h.int; exact .base (.int i)
  | str z => cases h.str; exact .base (.str z)
  | tup ds => obtain ⟨a, xs, rfl, h1, _⟩ := h.tup s; exact SqT.tyx h1
  | lst ds => obtain ⟨a, xs, rfl, h1, _⟩ := h.lst s; exact .base (.lst h1)
  | rol ds => obtain ⟨a, xs, rfl, h1, _⟩ := h.rol s; exact SqL.tyx h1
  | dk ks vs =>
    obtain ⟨a, kvs, rfl, h1, _⟩ := h.dk s
    rcases h1 with h1 | ⟨o, h1⟩
    · exact .base (.dK h1)
    · exact .fDict h1
  | dt ks vs => exact absurd rfl (nd ks vs)
theorem kit_all (d : D) (T : String) (h : tyOk T = true) : PySem.W.kitOne K (.type (tyD d)) (.type T) = some (isTy (tyD d) T) := by
  have key : ∀ t ∈ ["NoneType", "bool", "int", "str", "tuple", "list", "dict"], ∀ T ∈ ["int", "bool", "str", "tuple", "list", "dict"], kitB t T = some (isTy t T) := by decide +kernel
  have ht : tyD d ∈ ["NoneType", "bool", "int", "str", "tuple", "list", "dict"] := by cases d <;> simp [tyD]
  have hT : T ∈ ["int", "bool", "str", "tuple", "list", "dict"] := by
    unfold tyOk at h
    exact List.contains_iff_mem.mp h
  exact kit_ty (key _ ht T hT)
def notDt : D → Bool
  | .dt _ _ => false
  | _ => true
def gIsi (T : String) (d : D) : Option Sl := if notDt d then sb (isTy (tyD d) T) else none

/-! ### repr -/
def gRepr (d : D) : Option Sl := if d.py.canLay0 && d.py.showable && decide (d.py.depth ≤ 64) && decide (d.py.shown.length ≤ sizeLine) then ss d.py.shown else none
theorem cg_repr (gd : X.A.guards = some []) (hu : X.A.units + 70 < cLine) : CallR X (.builtin "repr") (rG X.K (gg1 gRepr)) := by
  intro pins s σ H xs us Q I r h
  obtain ⟨x, rfl, B, a, q, sb', ra, hg, k⟩ := rG.one h
  obtain ⟨c, e⟩ := ifT hg
  simp only [Bool.and_eq_true, decide_eq_true_eq] at c
  obtain ⟨⟨⟨c1, c2⟩, c3⟩, c4⟩ := c
  cases e
  cases r with
  | cons rv rt =>
    rename_i u ut
    cases rt
    have dp := ra.dp sb' c1
    obtain ⟨as, rd⟩ := Dp.reads I _ x u dp rv
    have fin : ∀ {h' : Heap} {t : Tok} {tk : Nat}, (∀ b o, s.heap.get? b = some o → h'.get? b = some o) → EP X pins σ Q (.str a.py.shown t) { s with heap := h', toks := tk } := fun {h' t tk} kp => ⟨.str _, H, I.kept kp, ⟨_, rfl⟩, k.str sb'⟩
    cases x with
    | ref p =>
      cases rv
      exact repr_of_reads' rd c2 (PyData.noDict_hsm (PyData.hasDict_of_canLay _ c1)) gd (by omega) (fun _ _ z => z) (fun h' u tk kp => fin kp) c4
    | non =>
      cases rv
      have : a.py = .none := by generalize a.py = z at dp; cases dp; rfl
      rw [this] at k
      exact PySem.P.repr_of_none ⟨.str _, H, I.tok _, ⟨_, rfl⟩, k.str sb'⟩
    | bl b =>
      cases rv
      have : a.py = .bool b := by generalize a.py = z at dp; cases dp; rfl
      rw [this] at k
      exact PySem.P.repr_of_bool ⟨.str _, H, I.tok _, ⟨_, rfl⟩, k.str sb'⟩
    | int i =>
      obtain ⟨t, rfl⟩ := rv
      have : a.py = .int i := by generalize a.py = z at dp; cases dp; rfl
      rw [this] at k c2
      exact PySem.P.repr_of_int (by simpa [PyData.showable] using c2) ⟨.str _, H, I.tok _, ⟨_, rfl⟩, k.str sb'⟩
    | str z =>
      obtain ⟨t, rfl⟩ := rv
      have : a.py = .str z := by generalize a.py = y at dp; cases dp; rfl
      rw [this] at k c4
      exact PySem.P.repr_of_str ⟨.str _, H, I.tok _, ⟨_, rfl⟩, k.str sb'⟩ (by simpa [PyData.shown] using c4)
    | byt _ => generalize a.py = z at dp; cases dp
    | flt _ => generalize a.py = z at dp; cases dp
    | ty _ => generalize a.py = z at dp; cases dp
end
end DL

end
section
set_option maxRecDepth 100000
set_option maxHeartbeats 4000000
/-! DB3: set(list of ints), sorted of it, sorted lists. -/
namespace DL
open PySem PySem.Spec PyProof.Rows L2

/-- the object of a set that has nothing yet -/
def noSet (w : World) : Obj := { cls := .type "set", dict := none, data := .set #[] 0 (.fresh 0 0 (!w.params.followText "set-order")) }
section
variable {P : Program} {w : World} {A : Around} {E : Value → Shared → Prop} {s : Shared}
theorem set_of_list {la : Addr} {xs : Array Value} (ks : List Int) {Q : Value → Shared → Prop} (nh : A.handled = none) (isl : s.heap.IsList la xs) (are : IntsAre xs.toList ks) (few : ks.length + 1 < scanBound)
    (fin : ∀ (g : Heap) (tk c : Nat), SetR w g s.heap.objs.size (fun j => decide (j ∈ ks)) c → (∀ b o, s.heap.get? b = some o → g.get? b = some o) → Q (.ref s.heap.objs.size) { s with heap := g, toks := tk }) :
    wpAny (model P w) A (call (.type "set") [.ref la]) Q E s := by
  have sz : xs.size = ks.length := by have q := are.length; simpa using q
  obtain ⟨c0, tl, mroQ⟩ := F.called_set.mro
  have madeQ := F.called_set.made
  have subQ := F.called_set.sub
  have a1 := F.called_set.notType
  have a2 := F.called_set.canCreate
  have a3 := F.typeCall_set_1 (.ref la)
  have liQ := F.called_set.init.lookup
  have biQ := F.called_set.init.bind (.ref s.heap.objs.size)
  have getS : (s.heap.push (noSet w)).get? s.heap.objs.size = some (noSet w) := Heap.get?_push_size _ rfl
  have tyS : Shared.TypeIs { s with heap := s.heap.push (noSet w) } (.ref s.heap.objs.size) "set" := ⟨_, getS, rfl⟩
  refine wpAny_call (codeAny_of_tree ?_)
  show wpAny _ _ (callAny (.type "set") _) _ _ _
  refine wpAny_pure ⟨Code.quiet_builtin _ (by decide +kernel), codeAny_builtin F.entry_type_call ?_⟩
  rw [Around.under_plain (weight_type_call_type "set" [.ref la] []) rfl]
  repeat (any_goals (first | assumption | wp_step))
  refine codeAny_mono (code_set_led1 (.ref la) (E := E) (Q₁ := fun ob s1 => ob = .ref s.heap.objs.size ∧ s1 = { s with heap := s.heap.push (noSet w) }) ⟨rfl, rfl⟩) fun r s1 hr => ?_
  match r, hr with
  | .error e, hr => exact hr
  | .ok .next, hr => exact hr.elim
  | .ok .brk, hr => exact hr.elim
  | .ok .cont, hr => exact hr.elim
  | .ok (.ret ob), hr =>
    obtain ⟨rfl, rfl⟩ := hr
    repeat (any_goals (first | assumption | wp_step))
    refine codeAny_mono (codeAny_call_builtin (R := wants (fun r s2 => r = .none ∧ ∃ g tk c, s2 = { s with heap := g, toks := tk } ∧ SetR w g s.heap.objs.size (fun j => decide (j ∈ ks)) c ∧ (∀ b o, s.heap.get? b = some o → g.get? b = some o)) E) F.called_set.init.plain F.entry_set_init (check_set_init_1 tyS ?_)) fun r2 s2 hr2 => ?_
    · obtain ⟨ob, getl, clsl, nl, datl⟩ := isl
      obtain ⟨ocls, odict, odata, oslots⟩ := ob
      simp only at clsl datl
      subst clsl; subst datl
      have getl' := Heap.get?_push_of_some (noSet w) getl
      have nots := F.sub_list_set
      have notf := F.sub_list_frozenset
      have ned : (Value.type "list" == Value.type "dict") = false := by decide
      have isl1 : (s.heap.push (noSet w)).IsList la xs := ⟨_, getl', rfl, nl, rfl⟩
      unfold Builtin.«set.__init__» noKeywords Builtin.Frozenset.updateFrom
      generalize itQ : pyIter = PI
      wp_walk
      subst itQ
      refine wpAny_pyIter_list isl1 ?_
      refine wpAny_bind (wpAny_runValue ?_)
      have lt0 : la < s.heap.objs.size := Heap.lt_size getl
      have szp : (s.heap.push (noSet w)).objs.size = s.heap.objs.size + 1 := Heap.size_push ..
      have neI : la ≠ (s.heap.push (noSet w)).objs.size := by rw [szp]; exact Nat.ne_of_lt (Nat.lt_succ_of_lt lt0)
      have off : s.heap.objs.size ∉ [(s.heap.push (noSet w)).objs.size, la] := by
        rw [szp]
        simp only [List.mem_cons, List.not_mem_nil, or_false, not_or]
        exact ⟨Nat.ne_of_lt (Nat.lt_succ_self _), Nat.ne_of_gt lt0⟩
      have val : ∀ (i : Nat) (v : Value), xs[i]? = some v → ∃ k t, ks[i]? = some k ∧ v = .int k t := fun i v hv => by
        have hi : i < ks.length := by rw [← sz]; exact (Array.getElem?_eq_some_iff.mp hv).1
        obtain ⟨t, e⟩ := PyProof.Rows.IntsAre.int_at are i v (by rw [Array.getElem?_toList]; exact hv)
        exact ⟨ks[i], t, List.getElem?_eq_getElem hi, by rw [e, List.getD_eq_getElem?_getD, List.getElem?_eq_getElem hi]; rfl⟩
      have nh3 : A.in1.in1.in1.handled = none := by simp [nh]
      refine set_update_ints ((Walks.list nh3 _ la neI xs).toS) s.heap.objs.size off ks sz few val (xs.size - 0) 0 _ (by omega) (Nat.zero_le _) ⟨⟨_, Heap.get?_push_size _ rfl, rfl, rfl⟩, isl1.push _⟩ ⟨0, Nat.le_refl 0, ?_⟩ fun s' c' mv lec R => ?_
      · exact setR_new_at (Heap.get?_push_of_some _ getS)
      · obtain ⟨g, g2, d', tk', os'⟩ := s'
        obtain rfl : g2 = s.gens := mv.gens
        obtain rfl : d' = s.drawn := mv.drawn
        obtain rfl : os' = s.os := mv.os
        show wpAny _ _ _ _ _ _
        refine wpAny_pure ?_
        show wpAny _ _ (ret Value.none) _ _ _
        refine wpAny_pure ⟨rfl, g, tk', c', rfl, R, fun b o e => ?_⟩
        have ltb : b < s.heap.objs.size := Heap.lt_size e
        refine mv.heap b o ?_ (Heap.get?_push_of_some _ (Heap.get?_push_of_some _ e))
        rw [szp]
        simp only [List.mem_cons, List.not_mem_nil, or_false, not_or]
        exact ⟨Nat.ne_of_lt ltb, Nat.ne_of_lt (Nat.lt_succ_of_lt ltb)⟩
    · match r2, hr2 with
      | .error e, hr2 => exact hr2
      | .ok .next, hr2 => exact hr2.elim
      | .ok .brk, hr2 => exact hr2.elim
      | .ok .cont, hr2 => exact hr2.elim
      | .ok (.ret r), hr2 =>
        obtain ⟨rfl, g, tk, c', rfl, R, kp⟩ := hr2
        repeat (any_goals (first | assumption | wp_step))
        exact fin _ _ _ R kp
end

end DL
end
section
set_option maxRecDepth 100000
set_option maxHeartbeats 2000000
/-! DB4: sorted(set(xs)), len(set(xs)), sorted(xs), of ints and of alike data. -/
namespace DL
open PySem PySem.Spec PyProof.Rows L2

/-! ### ints in order -/
def insI (i : Int) : List Int → List Int
  | [] => [i]
  | j :: js => if i ≤ j then i :: j :: js else j :: insI i js
def srtI : List Int → List Int
  | [] => []
  | i :: is => insI i (srtI is)
/-- in order, each once -/
def insU (i : Int) : List Int → List Int
  | [] => [i]
  | j :: js => if i < j then i :: j :: js else if i = j then j :: js else j :: insU i js
def srtU : List Int → List Int
  | [] => []
  | i :: is => insU i (srtU is)
theorem insI_perm (i : Int) : ∀ js, (insI i js).Perm (i :: js)
  | [] => .refl _
  | j :: js => by
    unfold insI
    split
    · exact .refl _
    · exact ((insI_perm i js).cons j).trans (List.Perm.swap ..)
theorem srtI_perm : ∀ is, (srtI is).Perm is
  | [] => .refl _
  | i :: is => (insI_perm i _).trans ((srtI_perm is).cons i)
theorem insI_srt (i : Int) : ∀ {js}, js.Pairwise (· ≤ ·) → (insI i js).Pairwise (· ≤ ·)
  | [], _ => List.pairwise_singleton _ _
  | j :: js, h => by
    obtain ⟨h1, h2⟩ := List.pairwise_cons.mp h
    unfold insI
    split
    · rename_i c
      exact List.pairwise_cons.mpr ⟨fun y hy => (List.mem_cons.mp hy).elim (fun e => by omega) fun q => Int.le_trans c (h1 y q), h⟩
    · rename_i c
      refine List.pairwise_cons.mpr ⟨fun y hy => ?_, insI_srt i h2⟩
      rcases List.mem_cons.mp ((insI_perm i js).mem_iff.mp hy) with e | q
      · omega
      · exact h1 y q
theorem srtI_srt : ∀ is, (srtI is).Pairwise (· ≤ ·)
  | [] => .nil
  | i :: is => insI_srt i (srtI_srt is)
theorem srt_uniq : ∀ {xs ys : List Int}, xs.Pairwise (· ≤ ·) → ys.Pairwise (· ≤ ·) → xs.Perm ys → xs = ys
  | [], ys, _, _, p => by rw [List.nil_perm.mp p]
  | x :: xs, [], _, _, p => absurd p.symm (by simp)
  | x :: xs, y :: ys, h1, h2, p => by
    obtain ⟨a1, a2⟩ := List.pairwise_cons.mp h1
    obtain ⟨b1, b2⟩ := List.pairwise_cons.mp h2
    have e : x = y := by
      have m1 : x ∈ y :: ys := p.mem_iff.mp List.mem_cons_self
      have m2 : y ∈ x :: xs := p.mem_iff.mpr List.mem_cons_self
      rcases List.mem_cons.mp m1 with e | m1
      · exact e
      · rcases List.mem_cons.mp m2 with e | m2
        · exact e.symm
        · have := a1 y m2; have := b1 x m1; omega
    subst e
    rw [srt_uniq a2 b2 p.cons_inv]
theorem insU_mem (i k : Int) : ∀ {js}, k ∈ insU i js ↔ k = i ∨ k ∈ js
  | [] => by simp [insU]
  | j :: js => by
    unfold insU
    split
    · simp
    · split
      · rename_i e; subst e; simp
      · rw [List.mem_cons, insU_mem i k, List.mem_cons]
        constructor <;> (intro h; rcases h with h | h | h <;> simp [h])
theorem srtU_mem (k : Int) : ∀ {is}, k ∈ srtU is ↔ k ∈ is
  | [] => by simp [srtU]
  | i :: is => by rw [srtU, insU_mem, srtU_mem k, List.mem_cons]
theorem insU_srt (i : Int) : ∀ {js}, js.Pairwise (· < ·) → (insU i js).Pairwise (· < ·)
  | [], _ => List.pairwise_singleton _ _
  | j :: js, h => by
    obtain ⟨h1, h2⟩ := List.pairwise_cons.mp h
    unfold insU
    split
    · rename_i c
      exact List.pairwise_cons.mpr ⟨fun y hy => (List.mem_cons.mp hy).elim (fun e => by omega) fun q => Int.lt_trans c (h1 y q), h⟩
    · rename_i c
      split
      · exact h
      · refine List.pairwise_cons.mpr ⟨fun y hy => ?_, insU_srt i h2⟩
        rcases (insU_mem i y).mp hy with e | q
        · omega
        · exact h1 y q
theorem srtU_srt : ∀ is, (srtU is).Pairwise (· < ·)
  | [] => .nil
  | i :: is => insU_srt i (srtU_srt is)
theorem nodup_lt {xs : List Int} (h : xs.Pairwise (· < ·)) : xs.Nodup := h.imp fun q => by omega
theorem lt_uniq {xs ys : List Int} (h1 : xs.Pairwise (· < ·)) (h2 : ys.Pairwise (· < ·)) (m : ∀ k, k ∈ xs ↔ k ∈ ys) : xs = ys :=
  srt_uniq (h1.imp fun q => Int.le_of_lt q) (h2.imp fun q => Int.le_of_lt q) ((List.perm_ext_iff_of_nodup (nodup_lt h1) (nodup_lt h2)).mpr m)
theorem setR_count {w : World} {h : Heap} {a : Addr} {S : Int → Bool} {n : Nat} (R : SetR w h a S n) {ks : List Int} (hS : ∀ k, S k = true ↔ k ∈ ks) : n = (srtU ks).length := by
  obtain ⟨o, es, ep, t, _, _, _, _, nd, hm, _, _, hn, _⟩ := R
  have p : (es.toList.map keyOf).Perm (srtU ks) := (List.perm_ext_iff_of_nodup nd (nodup_lt (srtU_srt ks))).mpr fun k => by rw [← hm k, hS k, srtU_mem]
  have := p.length_eq
  simp at this
  omega
def itemsS : D → Option (List D)
  | .tup ds => some ds
  | .lst ds => some ds
  | _ => none
def onSet (d : D) (f : List Int → Option Sl) : Option Sl := match itemsS d with
  | some ds => onInts ds fun ns => if decide (ns.length ≤ 4000) then f ns else none
  | none => none
def gSortSet : D → Option Sl := fun d => onSet d fun ns => if decide ((srtU ns).length < 64) then sl ((srtU ns).map D.int) else none
def gLenSet : D → Option Sl := fun d => onSet d fun ns => si (srtU ns).length
section
variable {X : Cx} {F : Fr} {W : WX} {K : PySem.W.Frag} {B H : Hp}
/-- set(xs) of ints -/
def rSetI (K : PySem.W.Frag) (w : World) : List V → Hp → VK → Prop := fun xs H Q => ∃ (l : Addr) (ks : List Int), xs = [.ref l] ∧ (SqL K H l (ks.map V.int) ∨ SqT K H l (ks.map V.int)) ∧ ks.length ≤ 4000 ∧
  ∀ a, H a = none → Q (.ref a) (upd H a (SetO w a (fun j => decide (j ∈ ks)) (srtU ks).length))
theorem cr_setI (hc : X.calm = true) : CallR X (.type "set") (rSetI X.K X.w) := by
  intro pins s σ H xs us Q I r h
  obtain ⟨l, ks, rfl, hs, hf, q⟩ := h
  rw [Vals.ref1 r]
  have hn : H s.heap.objs.size = none := I.hok.fresh (Nat.le_refl _)
  have fin : ∀ (g : Heap) (tk c : Nat), SetR X.w g s.heap.objs.size (fun j => decide (j ∈ ks)) c → (∀ b o, s.heap.get? b = some o → g.get? b = some o) → EP X pins σ Q (.ref s.heap.objs.size) { s with heap := g, toks := tk } := fun g tk c R k => by
    have e := setR_count R (ks := ks) fun k => by simp
    subst e
    exact ⟨.ref s.heap.objs.size, _, I.laid (t' := tk) k (Nat.le_refl _) (setO_new R), rfl, q _ hn⟩
  have few : ks.length + 1 < scanBound := by unfold scanBound; omega
  rcases hs with hs | hs
  · obtain ⟨its, rv, pl, hz⟩ := I.list hs
    exact set_of_list ks (I.ok.hd hc) pl.isList (by simpa using rv.ints) few fin
  · obtain ⟨its, rv, ⟨o, ho, hcl, n, hd⟩, _⟩ := I.tuple hs
    exact call_set_tupI ks (I.ok.hd hc) ⟨o, ho, hcl, n, hd⟩ (by simpa using rv.ints) few fun g tk c R _ k => fin g tk c R k
theorem onSet_ok {d : D} {f : List Int → Option Sl} {s : Sl} (h : onSet d f = some s) : ∃ ds ns, itemsS d = some ds ∧ intsD ds = some ns ∧ ns.length ≤ 4000 ∧ f ns = some s := by
  unfold onSet at h
  split at h
  · obtain ⟨ns, h1, h2⟩ := onInts_ok h
    obtain ⟨h3, h4⟩ := ifT h2
    exact ⟨_, ns, by assumption, h1, of_decide_eq_true h3, h4⟩
  · cases h
theorem itemsS_rep {x : V} {d : D} {ds : List D} {ns : List Int} (sb' : Sub B H) (r : RepN K H B x d) (h : itemsS d = some ds) (hn : intsD ds = some ns) : ∃ l, x = .ref l ∧ (SqL K H l (ns.map V.int) ∨ SqT K H l (ns.map V.int)) := by
  cases d with
  | tup es => cases h; obtain ⟨a, xs, rfl, h1, _, h2⟩ := r.tup sb'; exact ⟨a, rfl, .inr (by rw [← intsD_reps h2 hn]; exact h1)⟩
  | lst es => cases h; obtain ⟨a, xs, rfl, h1, h2⟩ := r.lst sb'; exact ⟨a, rfl, .inl (by rw [← intsD_reps h2 hn]; exact .of h1)⟩
  | _ => cases h
theorem de_ofSet {x : Str} {g : D → Option Sl} {f : List Int → Option Sl} {r : List V → Hp → VK → Prop} {id : String} {o : Opd} {a : Expr} {p p2 q pos : Pos} (hg : ∀ d, g d = onSet d f) (hcr : CallR X (.builtin id) r) (hid : bootBuiltins x = some (.builtin id)) (hc : X.calm = true) (hK : F.K = X.K)
    (hf : ∀ (B H : Hp) (ns : List Int) (s : Sl) (a : Addr) (Q : VK), Sub B H → f ns = some s → H a = none → ResG X.K B H Q s → r [.ref a] (upd H a (SetO X.w a (fun j => decide (j ∈ ns)) (srtU ns).length)) Q)
    (hg1 : Gl X x) (hm1 : X.mg x = none) (hg2 : Gl X "set") (hm2 : X.mg "set" = none) (hn1 : x ≠ "__name__") (hd1 : (x == ("__debug__" : Str)) = false)
    (ha : PE X a (tO F W o)) (bo : bors F.n [o] = true) (na : plainE a = true) : PE X (.Call (.Name x p) [.Call (.Name "set" p2) [a] [] q] [] pos) (tE F W (eN (gg1 g) [o])) := by
  have h1 : PE X (.Call (.Name "set" p2) [a] [] q) (tCB (rSetI X.K X.w) (tCons (tO F W o) tNil)) := pe_callTy (cr_setI hc) hg2 hm2 (by rfl) (pa_cons ha pa_nil (star_one na)) (he := star_one na)
  have h2 := pe_callB (pos := pos) (p := p) hcr hg1 hm1 hid (pa_cons h1 pa_nil (star_one rfl)) hn1 hd1
  refine h2.imp fun σ H Q z => ?_
  refine tO_mono o σ H _ _ (fun v H1 q1 => ?_) (eN_run bo z)
  obtain ⟨v', ev, B, d, s, sb', rn, hgd, k⟩ := rG.one q1
  cases ev
  rw [hg] at hgd
  obtain ⟨ds, ns, e1, e2, e3, e4⟩ := onSet_ok hgd
  rw [hK] at rn k
  obtain ⟨l, rfl, hs⟩ := itemsS_rep sb' rn e1 e2
  exact ⟨l, ns, rfl, hs, e3, fun a' hn => hf B H1 ns s a' Q sb' e4 hn k⟩
theorem SqX.upd {K : PySem.W.Frag} {H : Hp} {p : Addr} {o : HO} (h : H p = none) : Sub H (L2.upd H p o) := Sub.upd h
theorem de_sortSet {o : Opd} {a : Expr} {p p2 q pos : Pos} (hc : X.calm = true) (hK : F.K = X.K) (hg1 : Gl X "sorted") (hm1 : X.mg "sorted" = none) (hg2 : Gl X "set") (hm2 : X.mg "set" = none)
    (ha : PE X a (tO F W o)) (bo : bors F.n [o] = true) (na : plainE a = true) : PE X (.Call (.Name "sorted" p) [.Call (.Name "set" p2) [a] [] q] [] pos) (tE F W (eN (gg1 gSortSet) [o])) := by
  refine de_ofSet (fun _ => rfl) (cr_sortedSet hc) (by rfl) hc hK (fun B H ns s a Q sb' hs hn k => ?_) hg1 hm1 hg2 hm2 (by decide) (by decide) ha bo na
  obtain ⟨c, e⟩ := ifT hs
  cases e
  refine ⟨a, _, _, rfl, upd_same, of_decide_eq_true c, fun ms p' h1 h2 _ h4 => ?_⟩
  have e : ms = srtU ns := lt_uniq h1 (srtU_srt ns) fun k => by rw [h2 k, srtU_mem]; simp
  subst e
  have h4' : H p' = none := (Sub.upd hn).none h4
  refine k.own sb' p' _ ((Sub.upd hn).trans (Sub.upd h4)) h4' ⟨_, upd_same, ?_⟩
  exact int_reps _
theorem call_lenSetO (w : World) : CallR X (.builtin "len") (fun xs H Q => ∃ a S n, xs = [V.ref a] ∧ H a = some (SetO X.w a S n) ∧ Q (.int (n : Nat)) H) := by
  intro pins s σ H xs us Q I r h
  obtain ⟨a, S, n, rfl, ha, q⟩ := h
  rw [Vals.ref1 r]
  obtain ⟨o, es, ep, t, ho, hex, hd, _, _, _, hb, hf, hn, _⟩ := setO_get I ha
  have : es.size < 2 ^ 63 := by unfold scanBound at hb; omega
  exact call_len_set ho hex hd hf (by omega) ⟨.int n, H, I.tok _, ⟨_, by rw [hn]⟩, q⟩
theorem de_lenSet {o : Opd} {a : Expr} {p p2 q pos : Pos} (hc : X.calm = true) (hK : F.K = X.K) (hg1 : Gl X "len") (hm1 : X.mg "len" = none) (hg2 : Gl X "set") (hm2 : X.mg "set" = none)
    (ha : PE X a (tO F W o)) (bo : bors F.n [o] = true) (na : plainE a = true) : PE X (.Call (.Name "len" p) [.Call (.Name "set" p2) [a] [] q] [] pos) (tE F W (eN (gg1 gLenSet) [o])) := by
  refine de_ofSet (fun _ => rfl) (call_lenSetO X.w) (by rfl) hc hK (fun B H ns s a Q sb' hs hn k => ?_) hg1 hm1 hg2 hm2 (by decide) (by decide) ha bo na
  cases hs
  exact ⟨a, _, _, rfl, upd_same, k (.int _) _ _ ⟨Sub.upd hn, .refl _, sb'.trans (Sub.upd hn), fun _ _ => rfl⟩ (.int _)⟩

/-! ### sorted(xs) -/
def alikes (ds : List D) : Bool := ds.all fun a => ds.all fun b => PySem.W.alike a.py b.py
def tupd : D → Bool
  | .tup (_ :: _) => true
  | _ => false
def oth : D → Bool
  | .tup _ => false
  | .non => false
  | _ => true
def sortC (ds : List D) : Bool := alikes ds && (ds.all tupd || ds.all oth) && ds.all (fun d => d.py.canLay0 && decide (d.py.depth ≤ 50))
def intKs : List Key → Option (List Int)
  | [] => some []
  | .inl i :: ks => (intKs ks).map (i :: ·)
  | _ => none
def keyT (k : List Key) : D := .tup (k.map kD)
def gSorted0 : D → Option Sl := fun d => match (match d with | .lst ds => some ds | .rol ds => some ds | _ => none) with
  | some ds => (match intsD ds with
    | some ns => sl ((srtI ns).map D.int)
    | none => if alikes ds && (ds.all tupd || ds.all oth) && ds.all (fun d => d.py.canLay0 && decide (d.py.depth ≤ 50)) then sl (ds.mergeSort (PySem.W.dataLe false D.py)) else none)
  | none => none
def gSorted : D → Option Sl
  | .dk ks _ => (match intKs ks with
    | some ns => if ns.length < 64 then sl ((srtI ns).map D.int) else none
    | none => none)
  | .dt ks _ => if sortC (ks.map keyT) then sl ((ks.map keyT).mergeSort (PySem.W.dataLe false D.py)) else none
  | d => gSorted0 d
theorem intKs_ok : ∀ {ks : List Key} {ns : List Int}, intKs ks = some ns → ks = ns.map Sum.inl
  | [], _, h => by cases h; rfl
  | .inl i :: ks, ns, h => by
    obtain ⟨ms, h1, rfl⟩ := Option.map_eq_some_iff.mp h
    rw [List.map_cons, intKs_ok h1]
  | .inr _ :: _, _, h => by cases h
theorem alikes_ok {ds : List D} (h : alikes ds = true) : PySem.W.AllAlike (ds.map D.py) := by
  intro d hd d' hd'
  obtain ⟨a, ha, rfl⟩ := List.mem_map.mp hd
  obtain ⟨b, hb, rfl⟩ := List.mem_map.mp hd'
  exact List.all_eq_true.mp (List.all_eq_true.mp h a ha) b hb
theorem tupd_ok {d : D} (h : tupd d = true) : ∃ x r, d.py = .tuple (x :: r) := by
  match d, h with
  | .tup (a :: as), _ => exact ⟨_, _, rfl⟩
theorem oth_ok {d : D} (h : oth d = true) : d.py ≠ .none ∧ ∀ xs, d.py ≠ .tuple xs := by
  cases d <;> simp_all [D.py, oth]
theorem sortable_ok {ds : List D} (h : (ds.all tupd || ds.all oth) = true) : PySem.W.Sortable (ds.map D.py) := by
  rcases Bool.or_eq_true_iff.mp h with h | h
  · exact .inl fun d hd => by
      obtain ⟨a, ha, rfl⟩ := List.mem_map.mp hd
      exact tupd_ok (List.all_eq_true.mp h a ha)
  · exact .inr fun d hd => by
      obtain ⟨a, ha, rfl⟩ := List.mem_map.mp hd
      exact oth_ok (List.all_eq_true.mp h a ha)
theorem each_of {B : Hp} : ∀ {xs : List V} {us : List Value} {ds : List D}, Vals xs us → Reps K B xs ds → PySem.W.EachIs (fun v d => ∃ x, RelV x v ∧ Rep K B x d) us ds
  | _, _, _, .nil, .nil => .nil
  | _, _, _, .cons r t, .cons a b => .cons ⟨_, r, a⟩ (each_of t b)
theorem of_each {B : Hp} : ∀ {us : List Value} {ds : List D}, PySem.W.EachIs (fun v d => ∃ x, RelV x v ∧ Rep K B x d) us ds → ∃ xs, Vals xs us ∧ Reps K B xs ds
  | _, _, .nil => ⟨[], .nil, .nil⟩
  | _, _, .cons ⟨x, r, a⟩ t => by
    obtain ⟨xs, h1, h2⟩ := of_each t
    exact ⟨x :: xs, .cons r h1, .cons a h2⟩
theorem sorted_dt (hc : X.calm = true) (hu : X.A.units + 70 < cLine) {pins : List (Addr × Obj)} {s : Shared} {σ : St} {H B : Hp} {d : Addr} {kvs : List (List Key × V)} {Q : VK} (I : Inv X pins σ H s) (sb' : Sub B H) (hd : Rd H d (.dT kvs)) (c : sortC ((kvs.map (·.1)).map keyT) = true)
    (k : ResG X.K B H Q (.ow (.lst (((kvs.map (·.1)).map keyT).mergeSort (PySem.W.dataLe false D.py))))) : wpAny (model X.prog X.w) X.A (call (.builtin "sorted") [.ref d]) (EP X pins σ Q) X.xe s := by
  obtain ⟨z, hs, ks, pr, o, es, ep, ho, hx, hdt, he, hn⟩ := (show ObjOk X.prog X.w H s.heap d (.dT kvs) from hd.ok I.hok)
  have l1 : es.size = ks.length := size_of_entries he
  have l2 : kvs.length = ks.length := Paired.length pr
  refine Calls.call_function_entry PyProof.Rows.kind_sorted PyProof.Rows.plain_sorted PyProof.Rows.entry_sorted (PyProof.Rows.args_sorted1 _) ?_
  unfold Builtin.«sorted»
  refine wpAny_bind (m := checkCount "sorted" 1 1 _) (wpAny_pure ?_)
  refine wpAny_bind (PySem.W.kdu_collect (A := X.A.in1) (kdl_raw hs hx hdt) (I.ok.hd hc) ho (by omega) fun h' tk acc' kp it => ?_)
  have hl : acc'.toList.length = ks.length := by rw [Array.length_toList, it.1]; exact l1
  have ea : acc'.toList = ks.map fun x => Value.ref x.2.1 := by
    apply List.ext_getElem?
    intro j
    rw [List.getElem?_map]
    cases hj : acc'.toList[j]? with
    | none =>
      have h1 := List.getElem?_eq_none_iff.mp hj
      rw [List.getElem?_eq_none (by omega)]
      all_goals rfl
    | some v =>
      obtain ⟨en, hen, hv⟩ := it.2 j v (by rw [← Array.getElem?_toList]; exact hj)
      have qe := entry_at he j
      rw [hen] at qe
      cases hb : ks[j]? with
      | none =>
        rw [hb] at qe
        exact nomatch (show some en = none from qe)
      | some b =>
        rw [hb] at qe
        have e2 : en = entryOfKey (tupleKind (mixKind X.prog X.w)) b := Option.some.inj qe
        rw [hv, e2]
        all_goals rfl
  have eb : acc'.toList = (ks.map fun x => x.2.1).map Value.ref := by rw [ea, List.map_map]; all_goals rfl
  have rv : Vals ((ks.map fun x => x.2.1).map V.ref) acc'.toList := by rw [eb]; exact vals_refs _
  obtain ⟨B', al, rr, nn⟩ := keys_al (K := X.K) sb' (isKeys_of pr)
  have I1 : Inv X pins σ H { s with heap := h', toks := tk } := I.kept kp
  unfold sortC at c
  simp only [Bool.and_eq_true] at c
  obtain ⟨⟨c1, c2⟩, c3⟩ := c
  have c3 : ∀ d ∈ (kvs.map (·.1)).map keyT, d.py.canLay0 = true ∧ d.py.depth ≤ 50 := fun d hd => by
    have := List.all_eq_true.mp c3 d hd
    simpa using this
  have e := each_of rv rr
  have er : PySem.W.EachIs (fun v b => ∃ as, Reads h' v (D.py b) as) acc'.toList ((kvs.map (·.1)).map keyT) := (PySem.W.each_mem e).mono fun v d ⟨⟨x, r1, r2⟩, hd⟩ => Dp.reads I1 _ x v (r2.dp al.sub' (c3 d hd).1) r1
  have dl : ((kvs.map (·.1)).map keyT).length = ks.length := by rw [List.length_map, List.length_map, l2]
  refine wpAny_bind (wpAny_newList ?_ (by rw [hl]; omega))
  have hoL : (h'.push (seqObj "list" acc'.toList.toArray 0)).get? h'.objs.size = some (seqObj "list" acc'.toList.toArray 0) := Heap.get?_push_size _ rfl
  show wpAny _ _ _ _ _ { s with heap := h'.push (seqObj "list" acc'.toList.toArray 0), toks := tk }
  have er' : PySem.W.EachIs (fun v b => ∃ as, Reads (PySem.W.sortingHeap (h'.push (seqObj "list" acc'.toList.toArray 0)) h'.objs.size acc'.toList) v (D.py b) as) acc'.toList ((kvs.map (·.1)).map keyT) :=
    er.mono fun _ _ ⟨as, r⟩ => ⟨as, PyProof.Rows.Reads.keeps (fun b ob q => PySem.W.sortingHeap_old (Nat.ne_of_lt (Heap.lt_size q)) (Heap.get?_push_of_some _ q)) r⟩
  refine wpAny_bind (wpAny_holding (wpAny_call_entry PyProof.Rows.slot_list_sort ⟨_, hoL, rfl⟩ PyProof.Rows.entry_list_sort
    (PySem.W.list_sort_vals (s := { s with heap := h'.push (seqObj "list" acc'.toList.toArray 0), toks := tk }) (κ := PySem.W.dataKind (PySem.W.sortingHeap (h'.push (seqObj "list" acc'.toList.toArray 0)) h'.objs.size acc'.toList) (((kvs.map (·.1)).map keyT).map D.py)) hoL
      (PySem.W.SortsAt.data (s := { s with heap := PySem.W.sortingHeap (h'.push (seqObj "list" acc'.toList.toArray 0)) h'.objs.size acc'.toList, toks := tk }) (PySem.W.each_map (R := fun v d => ∃ as, Reads (PySem.W.sortingHeap (h'.push (seqObj "list" acc'.toList.toArray 0)) h'.objs.size acc'.toList) v d as) D.py er') (alikes_ok c1) (sortable_ok (by simpa using c2)) (PySem.W.bound_map fun b hb => by have := (c3 b hb).2; have u2 : X.A.in1.in1.units = X.A.units + 2 := rfl; show X.A.in1.in1.units + _ < _; rw [u2]; omega)) (by rw [hl]; omega) ⟨_, rfl, ?_⟩) (PyProof.Rows.args_list_sort _)))
  have out := PySem.W.sortVals_data false e er' (alikes_ok c1)
  obtain ⟨e', he'⟩ := PyProof.Rows.sortedHeap_at (vs := acc'.toList) (out := (PySem.W.sortVals (PySem.W.dataKind (PySem.W.sortingHeap (h'.push (seqObj "list" acc'.toList.toArray 0)) h'.objs.size acc'.toList) (((kvs.map (·.1)).map keyT).map D.py)) false acc'.toList acc'.toList).toArray) hoL
  obtain ⟨zs, h1, h2⟩ := of_each out
  have zl : zs.length ≤ sizeLine := by rw [h2.length, List.length_mergeSort, List.length_map, List.length_map]; omega
  have hf : H h'.objs.size = none := I1.hok.fresh (Nat.le_refl _)
  have s1 : Sub H (upd H h'.objs.size (.lst zs)) := Sub.upd hf
  refine wpAny_pure ⟨_, rfl, .ref h'.objs.size, upd H h'.objs.size (.lst zs), I1.laid (t' := tk) (fun b u q => ?_) (Nat.le_refl _)
    (show ObjOk X.prog X.w _ _ _ (.lst zs) from ⟨zl, _, e', h1, he'⟩), rfl, k _ _ B' ⟨s1, al.subB, al.sub'.trans s1, al.nw⟩ hf (nn _ hf) ⟨_, upd_same, h2⟩⟩
  have hb : b < h'.objs.size := Heap.lt_size q
  rw [PyProof.Rows.sortedHeap_old (Nat.ne_of_lt hb) (by rw [size_push']; exact Nat.lt_succ_of_lt hb)]
  exact Heap.get?_push_of_some _ q
theorem cg_sorted (hc : X.calm = true) (hu : X.A.units + 70 < cLine) : CallR X (.builtin "sorted") (rG X.K (gg1 gSorted)) := by
  intro pins s σ H xs us Q I r h
  obtain ⟨x, rfl, B, a, q, sb', ra, hg, k⟩ := rG.one h
  have main : ∀ (l : Addr) (ys : List V) (ds : List D), x = .ref l → SqL X.K H l ys → Reps X.K B ys ds → (match intsD ds with
    | some ns => sl ((srtI ns).map D.int)
    | none => if alikes ds && (ds.all tupd || ds.all oth) && ds.all (fun d => d.py.canLay0 && decide (d.py.depth ≤ 50)) then sl (ds.mergeSort (PySem.W.dataLe false D.py)) else none) = some q → wpAny (model X.prog X.w) X.A (call (.builtin "sorted") us) (EP X pins σ Q) X.xe s := by
    intro l ys ds ex hs rr hg
    subst ex
    split at hg
    · rename_i ns hn
      cases hg
      refine cr_sortedI pins s σ H _ us Q I r ⟨l, ns, rfl, by rw [← intsD_reps rr hn]; exact hs, fun ms p h1 h2 h3 => ?_⟩
      have e : ms = srtI ns := srt_uniq h2 (srtI_srt ns) (h1.trans (srtI_perm ns).symm)
      subst e
      exact k.own sb' p _ (Sub.upd h3) h3 ⟨_, upd_same, int_reps _⟩
    · obtain ⟨c, e⟩ := ifT hg
      cases e
      simp only [Bool.and_eq_true] at c
      obtain ⟨⟨c1, c2⟩, c3⟩ := c
      have c3 : ∀ d ∈ ds, d.py.canLay0 = true ∧ d.py.depth ≤ 50 := fun d hd => by
        have := List.all_eq_true.mp c3 d hd
        simpa using this
      obtain ⟨its, rv, hl, hz⟩ := I.list hs
      rw [Vals.ref1 r]
      have e := each_of rv rr
      have er : PySem.W.EachIs (fun v b => ∃ as, Reads s.heap v (D.py b) as) its ds := (PySem.W.each_mem e).mono fun v d ⟨⟨x, r1, r2⟩, hd⟩ => Dp.reads I _ x v (r2.dp sb' (c3 d hd).1) r1
      refine PySem.W.sorted_data hl.isList e er (alikes_ok c1) (sortable_ok (by simpa using c2)) (by rw [← rr.length]; exact hz) (fun b hb => by have := (c3 b hb).2; omega) fun out hlen ho => ?_
      obtain ⟨zs, h1, h2⟩ := of_each ho
      obtain ⟨ep, he'⟩ := PyProof.Rows.sortedAll_at s.heap its out.toArray
      have zl : zs.length ≤ sizeLine := by rw [h1.length, hlen, ← rr.length]; exact hz
      have hn : H (s.heap.objs.size + 1) = none := I.hok.fresh (Nat.le_succ _)
      exact ⟨.ref _, upd H (s.heap.objs.size + 1) (.lst zs), I.laid (t' := s.toks) (fun _ _ => PyProof.Rows.sortedAll_old) (Nat.le_succ _) ⟨zl, out, ep, h1, he'⟩, rfl, k.own sb' _ _ (Sub.upd hn) hn ⟨_, upd_same, h2⟩⟩
  unfold gSorted at hg
  split at hg
  · rename_i ks vs
    obtain ⟨p, kvs, rfl, e1, e2, e3⟩ := ra.dk sb'
    split at hg
    · rename_i ns hn
      split at hg
      · rename_i h64
        cases hg
        refine call_sortedDI hc pins s σ H _ us Q I r ⟨p, kvs, ns, rfl, e1, by rw [e2]; exact intKs_ok hn, h64, fun ms l h1 h2 h3 => ?_⟩
        have e : ms = srtI ns := srt_uniq h2 (srtI_srt ns) (h1.trans (srtI_perm ns).symm)
        subst e
        exact k.own sb' l _ (Sub.upd h3) h3 ⟨_, upd_same, int_reps _⟩
      · cases hg
    · cases hg
  · rename_i ks vs
    obtain ⟨p, kvs, rfl, e1, e2, e3⟩ := ra.dt sb'
    obtain ⟨c, e⟩ := ifT hg
    cases e
    rw [Vals.ref1 r]
    subst e2
    exact sorted_dt hc hu I sb' e1 c k
  unfold gSorted0 at hg
  split at hg
  · rename_i ds hd
    cases a with
    | lst es => cases hd; obtain ⟨l, ys, rfl, h1, h2⟩ := ra.lst sb'; exact main l ys _ rfl (.of h1) h2 hg
    | rol es => cases hd; obtain ⟨l, ys, rfl, h1, _, h2⟩ := ra.rol sb'; exact main l ys _ rfl h1 h2 hg
    | _ => cases hd
  · cases hg
end
end DL

end
section
set_option maxRecDepth 100000
set_option maxHeartbeats 4000000
/-! DB5: what a loop walks: a list, a tuple, a text, a dict; range; enumerate; zip of two or three, lists and tuples in any mix. -/
namespace DL
open PySem PySem.Spec PyProof.Rows L2

/-! ### a sequence: k says whether it is a tuple -/
def SqB (K : PySem.W.Frag) (k : Bool) (H : Hp) (a : Addr) (xs : List V) : Prop := match k with
  | false => SqL K H a xs
  | true => SqT K H a xs
def IsSq (k : Bool) (h : Heap) (a : Addr) (its : Array Value) : Prop := match k with
  | false => h.IsList a its
  | true => h.IsTuple a its
def IsIt (k : Bool) (h : Heap) (it a : Addr) (i : Nat) : Prop := match k with
  | false => h.IsListIter it a i
  | true => h.IsTupleIter it a i
def itObj (k : Bool) (a : Addr) : Obj := match k with
  | false => { cls := .type "list_iterator", data := .fields #[.ref a, .int 0 0] }
  | true => { cls := .type "tuple_iterator", data := .fields #[.ref a, .int 0 0] }
section
variable {P : Program} {w : World} {A : Around}
theorem inv_sqB {X : Cx} {pins : List (Addr × Obj)} {σ : St} {H : Hp} {s : Shared} {k : Bool} {a : Addr} {xs : List V} (I : Inv X pins σ H s) (h : SqB X.K k H a xs) : ∃ its : List Value, Vals xs its ∧ IsSq k s.heap a its.toArray ∧ xs.length ≤ sizeLine := by
  cases k with
  | false => obtain ⟨its, rv, p, z⟩ := I.list h; exact ⟨its, rv, p.isList, z⟩
  | true => obtain ⟨its, rv, p, z⟩ := I.tuple h; exact ⟨its, rv, p, z⟩
theorem inv_sqB_inj {X : Cx} {pins : List (Addr × Obj)} {σ : St} {H : Hp} {s : Shared} {k : Bool} {a : Addr} {xs ys : List V} (I : Inv X pins σ H s) (h : SqB X.K k H a xs) (h' : SqB X.K k H a ys) : xs = ys := by
  cases k with
  | false => exact I.list_inj h h'
  | true => exact I.tuple_inj h h'
theorem SqB.mono {K : PySem.W.Frag} {k : Bool} {H H' : Hp} {a : Addr} {xs : List V} (s : Sub H H') (h : SqB K k H a xs) : SqB K k H' a xs := by
  cases k with
  | false => exact s.seqL h
  | true => exact s.seqT h
theorem draws_sq (k : Bool) (hh : A.handled = none) (it a : Addr) (ne : a ≠ it) (its : Array Value) : Draws P w A it [it, a] its.size (fun i v => its[i]? = some v) (fun i h => IsIt k h it a i ∧ IsSq k h a its) := by
  cases k with
  | false => exact .list hh it a ne its
  | true => exact .tuple hh it a ne its
theorem begins_sq (k : Bool) (a : Addr) (its : Array Value) : Begins (.ref a) (itObj k a) fun h => IsSq k h a its := by
  cases k with
  | false => exact begins_list a its
  | true => exact begins_tuple a its
theorem isIt_keep {k : Bool} {h h' : Heap} {it a : Addr} {i : Nat} (x : IsIt k h it a i) (f : ∀ o, h.get? it = some o → h'.get? it = some o) : IsIt k h' it a i := by
  cases k with
  | false => exact Heap.IsListIter.at x f
  | true => exact Heap.IsTupleIter.at x f
theorem isIt_obj {k : Bool} {h : Heap} {it a : Addr} {i : Nat} (x : IsIt k h it a i) : ∃ o, h.get? it = some o ∧ ∀ v, o.data ≠ .cell v := by
  cases k with
  | false => obtain ⟨o, e, _, d⟩ := x; exact ⟨o, e, fun v z => by rw [d] at z; cases z⟩
  | true => obtain ⟨o, e, _, d⟩ := x; exact ⟨o, e, fun v z => by rw [d] at z; cases z⟩
theorem isIt_new {k : Bool} {h : Heap} {it a : Addr} (e : h.get? it = some (itObj k a)) : IsIt k h it a 0 := by
  cases k with
  | false => exact ⟨_, e, rfl, rfl⟩
  | true => exact ⟨_, e, rfl, rfl⟩
theorem isSq_lt {k : Bool} {h : Heap} {a : Addr} {its : Array Value} (x : IsSq k h a its) : a < h.objs.size := by
  cases k with
  | false => obtain ⟨o, e, _⟩ := x; exact Heap.lt_size e
  | true => obtain ⟨o, e, _⟩ := x; exact Heap.lt_size e
theorem vals_at {xs : List V} {its : List Value} (rv : Vals xs its) {i : Nat} {x : V} {u : Value} (hx : xs[i]? = some x) (hu : its.toArray[i]? = some u) : RelV x u := by
  obtain ⟨u', h1, h2⟩ := rv.get hx
  have : its[i]? = some u := by simpa using hu
  rw [h1] at this; cases this
  exact h2
end

theorem hd1 {A : Around} (h : A.handled = none) : A.in1.handled = none := by simpa using h

/-! ### zip of two -/
def Itz2 (K : PySem.W.Frag) (k1 k2 : Bool) (a b : Addr) : It :=
  ⟨fun i H => ∃ (xs ys : List V), SqB K k1 H a xs ∧ SqB K k2 H b ys ∧ i < min xs.length ys.length,
    fun i H v H' => ∃ T x y, v = .ref T ∧ H T = none ∧ H' = upd H T (.tup [x, y]) ∧ (∀ xs, SqB K k1 H a xs → xs[i]? = some x) ∧ ∀ ys, SqB K k2 H b ys → ys[i]? = some y,
    fun i H => ∃ xs ys : List V, SqB K k1 H a xs ∧ SqB K k2 H b ys ∧ i = min xs.length ys.length⟩
def tnZ2 (k1 k2 : Bool) (z TI TO i1 i2 a b : Addr) (i : Nat) (h : Heap) : Prop := IsZip h z TI TO .none ∧ IsTupOf2 h TI (.ref i1) (.ref i2) ∧ (∃ x y, IsTupOf2 h TO x y) ∧ IsIt k1 h i1 a i ∧ IsIt k2 h i2 b i
theorem get_some {xs : List V} {i : Nat} (h : i < xs.length) : ∃ x, xs[i]? = some x := ⟨xs[i], List.getElem?_eq_getElem h⟩
theorem turn_z2 {P : Program} {w : World} {K : PySem.W.Frag} {elts : List Expr} {kk : Nat} {tp : Pos} {k1 k2 : Bool} {z TI TO i1 i2 a b : Addr} (S : ZipSep2 z TI TO i1 i2 [i1, a] [i2, b]) (n1 : a ≠ i1) (n2 : b ≠ i2) :
    Turn P w K (.Tuple elts kk tp) (Itz2 K k1 k2 a b) [z, TI, TO, i1, i2] z (tnZ2 k1 k2 z TI TO i1 i2 a b) where
  mem := by simp
  obj := fun i h st c hc => by
    obtain ⟨q1, q2, ⟨x, y, q3⟩, q4, q5⟩ := st
    simp only [List.mem_cons, List.not_mem_nil, or_false] at hc
    rcases hc with rfl | rfl | rfl | rfl | rfl
    · exact ⟨_, q1, fun v q => nomatch q⟩
    · exact ⟨_, q2, fun v q => nomatch q⟩
    · exact ⟨_, q3, fun v q => nomatch q⟩
    · exact isIt_obj q4
    · exact isIt_obj q5
  keep := fun i h h' ⟨q1, q2, ⟨x, y, q3⟩, q4, q5⟩ k => ⟨k z (by simp) _ q1, k TI (by simp) _ q2, ⟨x, y, k TO (by simp) _ q3⟩, isIt_keep q4 fun o e => k i1 (by simp) o e, isIt_keep q5 fun o e => k i2 (by simp) o e⟩
  item := by
    intro X hP hw hK hc i pins s σ H E I hf ⟨q1, q2, q3, q4, q5⟩ ⟨xs, ys, hx, hy, hi⟩
    subst hP hw hK
    obtain ⟨us, ru, pu, _⟩ := inv_sqB I hx
    obtain ⟨ws, rw', pw, _⟩ := inv_sqB I hy
    have lu : us.toArray.size = xs.length := by rw [List.size_toArray, ru.length]
    have lw : ws.toArray.size = ys.length := by rw [List.size_toArray, rw'.length]
    have G := GoesN.zip2 (elts := elts) (x1 := kk) (pos := tp) (prog := X.prog) (w := X.w) (A := X.A) S (draws_sq k1 (hd1 (I.ok.hd hc)) i1 a n1 us.toArray) (draws_sq k2 (hd1 (I.ok.hd hc)) i2 b n2 ws.toArray)
    refine wpAny_mono (G.goes i s (fun v s2 => ∃ x H', Inv X pins σ H' s2 ∧ RelV x v ∧ (Itz2 X.K k1 k2 a b).yld i H x H' ∧ tnZ2 k1 k2 z TI TO i1 i2 a b (i + 1) s2.heap ∧ ∀ c ∈ [z, TI, TO, i1, i2], H' c = none) E (by rw [lu, lw]; exact hi) ⟨q1, q2, q3, ⟨q4, pu⟩, ⟨q5, pw⟩⟩ fun v h' tk hY st' kp htk => ?_) (fun _ _ r => r) fun _ _ e => e
    obtain ⟨T, u1, u2, rfl, hT, g1, g2, tT⟩ := hY
    obtain ⟨x, hx1⟩ := get_some (show i < xs.length by omega)
    obtain ⟨y, hy1⟩ := get_some (show i < ys.length by omega)
    have hn : H T = none := I.hok.fresh hT
    have new : ObjOk X.prog X.w (upd H T (.tup [x, y])) h' T (.tup [x, y]) := ⟨by show 2 ≤ sizeLine; decide, [u1, u2], .cons (vals_at ru hx1 g1) (.cons (vals_at rw' hy1 g2) .nil), by obtain ⟨o, e, c, n, d⟩ := tT; exact ⟨o, e, c, n, d⟩⟩
    have wr : ∀ c, c ∈ [z, TO, i1, i2] → c ∈ [z, TI, TO, i1, i2] := fun c hc => by simp at hc ⊢; rcases hc with h | h | h | h <;> simp [h]
    refine ⟨.ref T, _, I.turnedNew (ch := [z, TI, TO, i1, i2]) (fun c o hc e => kp c o (fun q => hc (wr c q)) e) hf hT new, rfl, ⟨T, x, y, rfl, hn, rfl, fun l hl => by rw [inv_sqB_inj I hl hx]; exact hx1, fun l hl => by rw [inv_sqB_inj I hl hy]; exact hy1⟩, ⟨st'.1, st'.2.1, st'.2.2.1, st'.2.2.2.1.1, st'.2.2.2.2.1⟩, fun c hc => ?_⟩
    obtain ⟨o, ho, _⟩ : ∃ o, s.heap.get? c = some o ∧ True := by
      simp only [List.mem_cons, List.not_mem_nil, or_false] at hc
      rcases hc with rfl | rfl | rfl | rfl | rfl
      · exact ⟨_, q1, trivial⟩
      · exact ⟨_, q2, trivial⟩
      · obtain ⟨_, _, q3⟩ := q3; exact ⟨_, q3, trivial⟩
      · obtain ⟨o, e, _⟩ := isIt_obj q4; exact ⟨o, e, trivial⟩
      · obtain ⟨o, e, _⟩ := isIt_obj q5; exact ⟨o, e, trivial⟩
    rw [upd_ne (Nat.ne_of_lt (Nat.lt_of_lt_of_le (Heap.lt_size ho) hT))]
    exact (hf c hc).1
  done := by
    intro X hP hw hK hc i pins s σ H E I hf ⟨q1, q2, q3, q4, q5⟩ ⟨xs, ys, hx, hy, hi⟩
    subst hP hw hK
    obtain ⟨us, ru, pu, _⟩ := inv_sqB I hx
    obtain ⟨ws, rw', pw, _⟩ := inv_sqB I hy
    have lu : us.toArray.size = xs.length := by rw [List.size_toArray, ru.length]
    have lw : ws.toArray.size = ys.length := by rw [List.size_toArray, rw'.length]
    have G := GoesN.zip2 (elts := elts) (x1 := kk) (pos := tp) (prog := X.prog) (w := X.w) (A := X.A) S (draws_sq k1 (hd1 (I.ok.hd hc)) i1 a n1 us.toArray) (draws_sq k2 (hd1 (I.ok.hd hc)) i2 b n2 ws.toArray)
    rw [lu, lw, ← hi] at G
    have wr : ∀ c, c ∈ [z, TO, i1, i2] → c ∈ [z, TI, TO, i1, i2] := fun c hc => by simp at hc ⊢; rcases hc with h | h | h | h <;> simp [h]
    exact G.stops s (fun s1 => Inv X pins σ H s1) E ⟨q1, q2, q3, ⟨q4, pu⟩, ⟨q5, pw⟩⟩ fun h' tk kp htk => I.turnedL (ch := [z, TI, TO, i1, i2]) (fun c o hc e => kp c o (fun q => hc (wr c q)) e) hf
  self := fun A i s Q E st h => wpAny_pyIter_zip st.1 h

/-! ### zip of three -/
def Itz3 (K : PySem.W.Frag) (k1 k2 k3 : Bool) (a b c : Addr) : It :=
  ⟨fun i H => ∃ (xs ys zs : List V), SqB K k1 H a xs ∧ SqB K k2 H b ys ∧ SqB K k3 H c zs ∧ i < min (min xs.length ys.length) zs.length,
    fun i H v H' => ∃ T x y u, v = .ref T ∧ H T = none ∧ H' = upd H T (.tup [x, y, u]) ∧ (∀ xs, SqB K k1 H a xs → xs[i]? = some x) ∧ (∀ ys, SqB K k2 H b ys → ys[i]? = some y) ∧ ∀ zs, SqB K k3 H c zs → zs[i]? = some u,
    fun i H => ∃ xs ys zs : List V, SqB K k1 H a xs ∧ SqB K k2 H b ys ∧ SqB K k3 H c zs ∧ i = min (min xs.length ys.length) zs.length⟩
def tnZ3 (k1 k2 k3 : Bool) (z TI TO i1 i2 i3 a b c : Addr) (i : Nat) (h : Heap) : Prop := IsZip h z TI TO .none ∧ IsTupOf3 h TI (.ref i1) (.ref i2) (.ref i3) ∧ (∃ x y u, IsTupOf3 h TO x y u) ∧ IsIt k1 h i1 a i ∧ IsIt k2 h i2 b i ∧ IsIt k3 h i3 c i
theorem tnZ3_obj {k1 k2 k3 : Bool} {z TI TO i1 i2 i3 a b c : Addr} {i : Nat} {h : Heap} (st : tnZ3 k1 k2 k3 z TI TO i1 i2 i3 a b c i h) : ∀ q ∈ [z, TI, TO, i1, i2, i3], ∃ o, h.get? q = some o ∧ ∀ v, o.data ≠ .cell v := fun q hc => by
  obtain ⟨q1, q2, ⟨x, y, u, q3⟩, q4, q5, q6⟩ := st
  simp only [List.mem_cons, List.not_mem_nil, or_false] at hc
  rcases hc with rfl | rfl | rfl | rfl | rfl | rfl
  · exact ⟨_, q1, fun v q => nomatch q⟩
  · exact ⟨_, q2, fun v q => nomatch q⟩
  · exact ⟨_, q3, fun v q => nomatch q⟩
  · exact isIt_obj q4
  · exact isIt_obj q5
  · exact isIt_obj q6
theorem turn_z3 {P : Program} {w : World} {K : PySem.W.Frag} {elts : List Expr} {kk : Nat} {tp : Pos} {k1 k2 k3 : Bool} {z TI TO i1 i2 i3 a b c : Addr} (S : ZipSep3 z TI TO i1 i2 i3 [i1, a] [i2, b] [i3, c]) (n1 : a ≠ i1) (n2 : b ≠ i2) (n3 : c ≠ i3) :
    Turn P w K (.Tuple elts kk tp) (Itz3 K k1 k2 k3 a b c) [z, TI, TO, i1, i2, i3] z (tnZ3 k1 k2 k3 z TI TO i1 i2 i3 a b c) where
  mem := by simp
  obj := fun i h st q hq => tnZ3_obj st q hq
  keep := fun i h h' ⟨q1, q2, ⟨x, y, u, q3⟩, q4, q5, q6⟩ k => ⟨k z (by simp) _ q1, k TI (by simp) _ q2, ⟨x, y, u, k TO (by simp) _ q3⟩, isIt_keep q4 fun o e => k i1 (by simp) o e, isIt_keep q5 fun o e => k i2 (by simp) o e, isIt_keep q6 fun o e => k i3 (by simp) o e⟩
  item := by
    intro X hP hw hK hc i pins s σ H E I hf st ⟨xs, ys, zs, hx, hy, hz, hi⟩
    subst hP hw hK
    have there := tnZ3_obj st
    obtain ⟨q1, q2, q3, q4, q5, q6⟩ := st
    obtain ⟨us, ru, pu, _⟩ := inv_sqB I hx
    obtain ⟨ws, rw', pw, _⟩ := inv_sqB I hy
    obtain ⟨vs, rv, pv, _⟩ := inv_sqB I hz
    have lu : us.toArray.size = xs.length := by rw [List.size_toArray, ru.length]
    have lw : ws.toArray.size = ys.length := by rw [List.size_toArray, rw'.length]
    have lv : vs.toArray.size = zs.length := by rw [List.size_toArray, rv.length]
    have G := GoesN.zip3 (elts := elts) (x1 := kk) (pos := tp) (prog := X.prog) (w := X.w) (A := X.A) S (draws_sq k1 (hd1 (I.ok.hd hc)) i1 a n1 us.toArray) (draws_sq k2 (hd1 (I.ok.hd hc)) i2 b n2 ws.toArray) (draws_sq k3 (hd1 (I.ok.hd hc)) i3 c n3 vs.toArray)
    refine wpAny_mono (G.goes i s (fun v s2 => ∃ x H', Inv X pins σ H' s2 ∧ RelV x v ∧ (Itz3 X.K k1 k2 k3 a b c).yld i H x H' ∧ tnZ3 k1 k2 k3 z TI TO i1 i2 i3 a b c (i + 1) s2.heap ∧ ∀ c ∈ [z, TI, TO, i1, i2, i3], H' c = none) E (by rw [lu, lw, lv]; exact hi) ⟨q1, q2, q3, ⟨q4, pu⟩, ⟨q5, pw⟩, ⟨q6, pv⟩⟩ fun v h' tk hY st' kp htk => ?_) (fun _ _ r => r) fun _ _ e => e
    obtain ⟨T, u1, u2, u3, rfl, hT, g1, g2, g3, tT⟩ := hY
    obtain ⟨x, hx1⟩ := get_some (show i < xs.length by omega)
    obtain ⟨y, hy1⟩ := get_some (show i < ys.length by omega)
    obtain ⟨u, hz1⟩ := get_some (show i < zs.length by omega)
    have hn : H T = none := I.hok.fresh hT
    have new : ObjOk X.prog X.w (upd H T (.tup [x, y, u])) h' T (.tup [x, y, u]) := ⟨by show 3 ≤ sizeLine; decide, [u1, u2, u3], .cons (vals_at ru hx1 g1) (.cons (vals_at rw' hy1 g2) (.cons (vals_at rv hz1 g3) .nil)), by obtain ⟨o, e, c, n, d⟩ := tT; exact ⟨o, e, c, n, d⟩⟩
    have wr : ∀ c, c ∈ [z, TO, i1, i2, i3] → c ∈ [z, TI, TO, i1, i2, i3] := fun c hc => by simp at hc ⊢; rcases hc with h | h | h | h | h <;> simp [h]
    refine ⟨.ref T, _, I.turnedNew (ch := [z, TI, TO, i1, i2, i3]) (fun c o hc e => kp c o (fun q => hc (wr c q)) e) hf hT new, rfl, ⟨T, x, y, u, rfl, hn, rfl, fun l hl => by rw [inv_sqB_inj I hl hx]; exact hx1, fun l hl => by rw [inv_sqB_inj I hl hy]; exact hy1, fun l hl => by rw [inv_sqB_inj I hl hz]; exact hz1⟩, ⟨st'.1, st'.2.1, st'.2.2.1, st'.2.2.2.1.1, st'.2.2.2.2.1.1, st'.2.2.2.2.2.1⟩, fun c hc => ?_⟩
    obtain ⟨o, ho, _⟩ := there c hc
    rw [upd_ne (Nat.ne_of_lt (Nat.lt_of_lt_of_le (Heap.lt_size ho) hT))]
    exact (hf c hc).1
  done := by
    intro X hP hw hK hc i pins s σ H E I hf ⟨q1, q2, q3, q4, q5, q6⟩ ⟨xs, ys, zs, hx, hy, hz, hi⟩
    subst hP hw hK
    obtain ⟨us, ru, pu, _⟩ := inv_sqB I hx
    obtain ⟨ws, rw', pw, _⟩ := inv_sqB I hy
    obtain ⟨vs, rv, pv, _⟩ := inv_sqB I hz
    have lu : us.toArray.size = xs.length := by rw [List.size_toArray, ru.length]
    have lw : ws.toArray.size = ys.length := by rw [List.size_toArray, rw'.length]
    have lv : vs.toArray.size = zs.length := by rw [List.size_toArray, rv.length]
    have G := GoesN.zip3 (elts := elts) (x1 := kk) (pos := tp) (prog := X.prog) (w := X.w) (A := X.A) S (draws_sq k1 (hd1 (I.ok.hd hc)) i1 a n1 us.toArray) (draws_sq k2 (hd1 (I.ok.hd hc)) i2 b n2 ws.toArray) (draws_sq k3 (hd1 (I.ok.hd hc)) i3 c n3 vs.toArray)
    rw [lu, lw, lv, ← hi] at G
    have wr : ∀ c, c ∈ [z, TO, i1, i2, i3] → c ∈ [z, TI, TO, i1, i2, i3] := fun c hc => by simp at hc ⊢; rcases hc with h | h | h | h | h <;> simp [h]
    exact G.stops s (fun s1 => Inv X pins σ H s1) E ⟨q1, q2, q3, ⟨q4, pu⟩, ⟨q5, pw⟩, ⟨q6, pv⟩⟩ fun h' tk kp htk => I.turnedL (ch := [z, TI, TO, i1, i2, i3]) (fun c o hc e => kp c o (fun q => hc (wr c q)) e) hf
  self := fun A i s Q E st h => wpAny_pyIter_zip st.1 h

/-! ### enumerate -/
def Iten (K : PySem.W.Frag) (k : Bool) (a : Addr) : It :=
  ⟨fun i H => ∃ (xs : List V), SqB K k H a xs ∧ i < xs.length,
    fun i H v H' => ∃ T x, v = .ref T ∧ H T = none ∧ H' = upd H T (.tup [.int (i : Nat), x]) ∧ ∀ xs, SqB K k H a xs → xs[i]? = some x,
    fun i H => ∃ xs : List V, SqB K k H a xs ∧ i = xs.length⟩
def tnEn (k : Bool) (e it a : Addr) (i : Nat) (h : Heap) : Prop := (∃ old, IsEnum h e it ((0 : Int) + (i : Nat)) old) ∧ IsIt k h it a i
theorem tnEn_obj {k : Bool} {e it a : Addr} {i : Nat} {h : Heap} (st : tnEn k e it a i h) : ∀ q ∈ [e, it], ∃ o, h.get? q = some o ∧ ∀ v, o.data ≠ .cell v := fun q hc => by
  obtain ⟨⟨old, q1⟩, q2⟩ := st
  simp only [List.mem_cons, List.not_mem_nil, or_false] at hc
  rcases hc with rfl | rfl
  · exact ⟨_, q1, fun v q => nomatch q⟩
  · exact isIt_obj q2
theorem turn_en {P : Program} {w : World} {K : PySem.W.Frag} {elts : List Expr} {kk : Nat} {tp : Pos} {k : Bool} {e it a : Addr} (n1 : a ≠ it) (n2 : e ≠ it) (n3 : e ≠ a) : Turn P w K (.Tuple elts kk tp) (Iten K k a) [e, it] e (tnEn k e it a) where
  mem := by simp
  obj := fun i h st q hq => tnEn_obj st q hq
  keep := fun i h h' ⟨⟨old, q1⟩, q2⟩ k => ⟨⟨old, k e (by simp) _ q1⟩, isIt_keep q2 fun o z => k it (by simp) o z⟩
  item := by
    intro X hP hw hK hc i pins s σ H E I hf st ⟨xs, hx, hi⟩
    subst hP hw hK
    have there := tnEn_obj st
    obtain ⟨us, ru, pu, _⟩ := inv_sqB I hx
    have lu : us.toArray.size = xs.length := by rw [List.size_toArray, ru.length]
    have G := GoesN.enumFrom (elts := elts) (x1 := kk) (pos := tp) (prog := X.prog) (w := X.w) (A := X.A) 0 (draws_sq k (hd1 (I.ok.hd hc)) it a n1 us.toArray) e n2 (by simp [n2, n3]) (by simp)
    refine wpAny_mono (G.goes i s (fun v s2 => ∃ x H', Inv X pins σ H' s2 ∧ RelV x v ∧ (Iten X.K k a).yld i H x H' ∧ tnEn k e it a (i + 1) s2.heap ∧ ∀ c ∈ [e, it], H' c = none) E (by rw [lu]; exact hi) ⟨st.1, st.2, pu⟩ fun v h' tk hY st' kp htk => ?_) (fun _ _ r => r) fun _ _ e => e
    obtain ⟨T, t, u, rfl, hT, g1, tT⟩ := hY
    obtain ⟨x, hx1⟩ := get_some hi
    have hn : H T = none := I.hok.fresh hT
    have new : ObjOk X.prog X.w (upd H T (.tup [.int (i : Nat), x])) h' T (.tup [.int (i : Nat), x]) := ⟨by show 2 ≤ sizeLine; decide, [.int (0 + (i : Int)) t, u], .cons ⟨t, by rw [Int.zero_add]⟩ (.cons (vals_at ru hx1 g1) .nil), by obtain ⟨o, e, c, n, d⟩ := tT; exact ⟨o, e, c, n, d⟩⟩
    refine ⟨.ref T, _, I.turnedNew (ch := [e, it]) (fun c o hc z => kp c o hc z) hf hT new, rfl, ⟨T, x, rfl, hn, rfl, fun l hl => by rw [inv_sqB_inj I hl hx]; exact hx1⟩, ⟨st'.1, st'.2.1⟩, fun c hc => ?_⟩
    obtain ⟨o, ho, _⟩ := there c hc
    rw [upd_ne (Nat.ne_of_lt (Nat.lt_of_lt_of_le (Heap.lt_size ho) hT))]
    exact (hf c hc).1
  done := by
    intro X hP hw hK hc i pins s σ H E I hf st ⟨xs, hx, hi⟩
    subst hP hw hK
    obtain ⟨us, ru, pu, _⟩ := inv_sqB I hx
    have lu : us.toArray.size = xs.length := by rw [List.size_toArray, ru.length]
    have G := GoesN.enumFrom (elts := elts) (x1 := kk) (pos := tp) (prog := X.prog) (w := X.w) (A := X.A) 0 (draws_sq k (hd1 (I.ok.hd hc)) it a n1 us.toArray) e n2 (by simp [n2, n3]) (by simp)
    rw [lu, ← hi] at G
    exact G.stops s (fun s1 => Inv X pins σ H s1) E ⟨st.1, st.2, pu⟩ fun h' tk kp htk => I.turnedL (ch := [e, it]) (fun c o hc z => kp c o hc z) hf
  self := fun A i s Q E st h => let ⟨⟨_, he⟩, _⟩ := st; wpAny_pyIter_enum he h
theorem meets_enum1 {v : Value} {o : Obj} {Hq : Heap → Prop} (B : Begins v o Hq) : Meets (Builtin.«enumerate.__new__» ⟨[.type "enumerate", v], []⟩) (fun _ R s => Hq s.heap ∧
      R (.ok (.ret (.ref (s.heap.push o).objs.size))) { s with heap := (s.heap.push o).push { cls := .type "enumerate", data := .fields #[.none, .bool false, .ref s.heap.objs.size, rawInt 0, .none, .none] } }) :=
  .of_wp fun prog w A R s hh => by
    obtain ⟨hp, g, d, tk, os⟩ := s
    obtain ⟨b1, fin⟩ := hh
    have se := sub_enumerate
    have itr : ∀ {A' : Around} {E : Value → Shared → Prop} {Q : Value → Shared → Prop}, Q (.ref hp.objs.size) ⟨hp.push o, g, d, tk, os⟩ → wpAny (model prog w) A' (pyIter v) Q E ⟨hp, g, d, tk, os⟩ := fun q => B.iter prog w _ _ ⟨hp, g, d, tk, os⟩ _ b1 q
    wp_walk using itr
    refine wpAny_stack_any fun st => wpAny_pure ?_
    split
    · rename_i c _ _ _ _ _
      cases (c == Value.type "enumerate") <;> (wp_walk using itr; exact ⟨_, rfl, fin⟩)
    · wp_walk using itr
      exact ⟨_, rfl, fin⟩
theorem enum_begins1 {prog : Program} {w : World} {A : Around} {E : Value → Shared → Prop} {s : Shared} {v : Value} {o : Obj} {Hq : Heap → Prop} {Q : Value → Shared → Prop} (B : Begins v o Hq) (b1 : Hq s.heap)
    (fin : ∀ h', IsEnum h' (s.heap.objs.size + 1) s.heap.objs.size 0 .none → h'.get? s.heap.objs.size = some o → (∀ b u, s.heap.get? b = some u → h'.get? b = some u) → Q (.ref (s.heap.objs.size + 1)) { s with heap := h' }) :
    wpAny (model prog w) A (call (.type "enumerate") [v]) Q E s := by
  refine callType_new F.called_enumerate (by decide) (F.typeCall_enumerate_1 _) (F.newCall_enumerate_1 _) (fun obj => F.args_object_init_2 obj _) F.entry_enumerate_new (meets_enum1 B) ⟨b1, ?_⟩
  have sz : (s.heap.push o).objs.size = s.heap.objs.size + 1 := Heap.size_push ..
  have ge := Heap.get?_push_size (s.heap.push o) (o := { cls := .type "enumerate", data := .fields #[.none, .bool false, .ref s.heap.objs.size, rawInt 0, .none, .none] }) rfl
  show _ ∧ _
  rw [sz] at ge ⊢
  exact ⟨⟨_, ge, rfl⟩, fin _ ge (Heap.get?_push_of_some _ (Heap.get?_push_size _ B.free)) fun b u x => Heap.get?_push_of_some _ (Heap.get?_push_of_some _ x)⟩
end DL

end
section
set_option maxRecDepth 100000
set_option maxHeartbeats 2000000
/-! DB6: sources of loops, as lists of data. -/
namespace DL
open PySem PySem.Spec PyProof.Rows L2

/-- what a loop over a thing gives -/
def seqD : D → Option (List D)
  | .tup ds => some ds
  | .lst ds => some ds
  | .rol ds => some ds
  | .str x => some (x.cps.toList.map fun c => .str ⟨#[c]⟩)
  | .dk ks _ => some (ks.map kD)
  | .dt ks _ => some (ks.map fun k => .tup (k.map kD))
  | _ => none
def srcV (f : M Sl) : M (List D) := fun e => bd (f e) fun s e' => match seqD s.d with
  | some l => .ok l e'
  | none => .bad
def rngD (lo : Int) (n : Nat) (c : Int) : List D := (List.range n).map fun i => .int (lo + (i : Nat) * c)
def rngOk (i : Int) : Bool := decide (-(2 ^ 62) ≤ i ∧ i < 2 ^ 62)
section
variable {X : Cx} {F : Fr} {W : WX} {K : PySem.W.Frag} {B H : Hp} {tg : Expr}
/-- a sequence that is never changed -/
theorem items_sq {x : V} {d : D} {ds : List D} (r : Rep K B x d) (h : itemsD d = some ds) : ∃ a k xs, x = .ref a ∧ SqB K k B a xs ∧ Reps K B xs ds := by
  cases r with
  | tup a b => cases h; exact ⟨_, true, _, rfl, .inl (.inl a), b⟩
  | lst a b => cases h; exact ⟨_, false, _, rfl, SqL.of a, b⟩
  | rol a b => cases h; exact ⟨_, false, _, rfl, a, b⟩
  | _ => cases h
theorem items_at {xs : List V} {ds : List D} {i : Nat} {x : V} (r : Reps K B xs ds) (h : xs[i]? = some x) {B2 : Hp} (s : Sub B B2) : ∃ d, ds[i]? = some d ∧ Rep K B2 x d := by
  obtain ⟨d, h1, h2⟩ := r.get h
  exact ⟨d, h1, h2.mono s⟩
theorem itr_list {a : Addr} {xs : List V} {ds : List D} (q : SqL K B a xs) (r : Reps K B xs ds) : ItR K B (Itl K a) ds where
  go := fun i H hi s => by
    obtain ⟨x, hx⟩ := get_some (show i < xs.length by rw [r.length]; exact hi)
    exact ⟨xs, x, s.seqL q, hx⟩
  stop := fun H s => ⟨xs, s.seqL q, by rw [r.length]; exact Nat.le_refl _⟩
  yld := fun i H x H' B2 hi s1 s2 ⟨e, h⟩ => by
    subst e
    obtain ⟨d, h1, h2⟩ := items_at r (h xs ((s1.trans s2).seqL q)) s1
    exact ⟨d, B2, h1, .refl s2, h2⟩
theorem itr_tup {a : Addr} {xs : List V} {ds : List D} (q : SqT K B a xs) (r : Reps K B xs ds) : ItR K B (Itt K a) ds where
  go := fun i H hi s => by
    obtain ⟨x, hx⟩ := get_some (show i < xs.length by rw [r.length]; exact hi)
    exact ⟨xs, x, s.seqT q, hx⟩
  stop := fun H s => ⟨xs, s.seqT q, by rw [r.length]; exact Nat.le_refl _⟩
  yld := fun i H x H' B2 hi s1 s2 ⟨e, h⟩ => by
    subst e
    obtain ⟨d, h1, h2⟩ := items_at r (h xs ((s1.trans s2).seqT q)) s1
    exact ⟨d, B2, h1, .refl s2, h2⟩
theorem itr_str {x : Str} : ItR K B (Its x) (x.cps.toList.map fun c => D.str ⟨#[c]⟩) where
  go := fun i H hi s => by show i < _; simpa using hi
  stop := fun H s => by show _ ≤ _; simp
  yld := fun i H v H' B2 hi s1 s2 ⟨e, c, hc, ev⟩ => by
    subst e ev
    exact ⟨.str ⟨#[c]⟩, B2, by simp [hc], .refl s2, .str _⟩
theorem itr_keys {a : Addr} {o : Obj} {kvs : List (Key × V)} (q : B a = some (.frz o (.dK kvs))) : ItR K B (Itk a o kvs) ((kvs.map (·.1)).map kD) where
  go := fun i H hi s => ⟨s _ _ q, by simpa using hi⟩
  stop := fun H s => ⟨s _ _ q, by simp⟩
  yld := fun i H v H' B2 hi s1 s2 ⟨e, k, u, hk, ev⟩ => by
    subst e ev
    exact ⟨kD k, B2, by simp [hk], .refl s2, rep_key k⟩
theorem itr_keysT {a : Addr} {o : Obj} {kvs : List (List Key × V)} (q : B a = some (.frz o (.dT kvs))) : ItR K B (Itkt a o kvs) ((kvs.map (·.1)).map fun k => .tup (k.map kD)) where
  go := fun i H hi s => ⟨s _ _ q, by simpa using hi⟩
  stop := fun H s => ⟨s _ _ q, by simp⟩
  yld := fun i H v H' B2 hi s1 s2 ⟨e, k, u, b, hk, ev, hb⟩ => by
    subst e ev
    exact ⟨.tup (k.map kD), _, by simp [hk], Al.tup s2 hb, .tup upd_same (keys_reps k)⟩
theorem itr_range {lo : Int} {n : Nat} : ItR K B (Itr lo n) (rngD lo n 1) where
  go := fun i H hi s => by show i < _; simpa [rngD] using hi
  stop := fun H s => by show _ ≤ _; simp [rngD]
  yld := fun i H v H' B2 hi s1 s2 ⟨e, ev⟩ => by
    subst e ev
    have hi : i < n := by simpa [rngD] using hi
    exact ⟨.int (lo + i), B2, by simp [rngD, hi], .refl s2, .int _⟩
theorem itr_rangeC {lo c : Int} {n : Nat} : ItR K B (Itc lo c n) (rngD lo n c) where
  go := fun i H hi s => by show i < _; simpa [rngD] using hi
  stop := fun H s => by show _ ≤ _; simp [rngD]
  yld := fun i H v H' B2 hi s1 s2 ⟨e, ev⟩ => by
    subst e ev
    have hi : i < n := by simpa [rngD] using hi
    exact ⟨.int (lo + i * c), B2, by simp [rngD, hi], .refl s2, .int _⟩
theorem itr_z2 {k1 k2 : Bool} {a b : Addr} {xs ys : List V} {ds es : List D} (q1 : SqB K k1 B a xs) (q2 : SqB K k2 B b ys) (r1 : Reps K B xs ds) (r2 : Reps K B ys es) : ItR K B (Itz2 K k1 k2 a b) (List.zipWith (fun x y => D.tup [x, y]) ds es) where
  go := fun i H hi s => ⟨xs, ys, q1.mono s, q2.mono s, by rw [r1.length, r2.length]; simpa using hi⟩
  stop := fun H s => ⟨xs, ys, q1.mono s, q2.mono s, by rw [r1.length, r2.length]; simp⟩
  yld := fun i H v H' B2 hi s1 s2 ⟨T, x, y, ev, hT, e, hx, hy⟩ => by
    subst ev e
    obtain ⟨d1, h1, h2⟩ := items_at r1 (hx xs (q1.mono (s1.trans s2))) s1
    obtain ⟨d2, g1, g2⟩ := items_at r2 (hy ys (q2.mono (s1.trans s2))) s1
    have al : Al H B2 (upd H T (.tup [x, y])) (upd B2 T (.tup [x, y])) := Al.new s2 hT
    exact ⟨.tup [d1, d2], _, by simp [List.getElem?_zipWith, h1, g1], al, .tup upd_same (.cons (h2.mono al.subB) (.cons (g2.mono al.subB) .nil))⟩
theorem itr_z3 {k1 k2 k3 : Bool} {a b c : Addr} {xs ys zs : List V} {ds es fs : List D} (q1 : SqB K k1 B a xs) (q2 : SqB K k2 B b ys) (q3 : SqB K k3 B c zs) (r1 : Reps K B xs ds) (r2 : Reps K B ys es) (r3 : Reps K B zs fs) :
    ItR K B (Itz3 K k1 k2 k3 a b c) (List.zipWith (fun (p : D × D) z => D.tup [p.1, p.2, z]) (List.zipWith Prod.mk ds es) fs) where
  go := fun i H hi s => ⟨xs, ys, zs, q1.mono s, q2.mono s, q3.mono s, by rw [r1.length, r2.length, r3.length]; simpa using hi⟩
  stop := fun H s => ⟨xs, ys, zs, q1.mono s, q2.mono s, q3.mono s, by rw [r1.length, r2.length, r3.length]; simp⟩
  yld := fun i H v H' B2 hi s1 s2 ⟨T, x, y, z, ev, hT, e, hx, hy, hz⟩ => by
    subst ev e
    obtain ⟨d1, h1, h2⟩ := items_at r1 (hx xs (q1.mono (s1.trans s2))) s1
    obtain ⟨d2, g1, g2⟩ := items_at r2 (hy ys (q2.mono (s1.trans s2))) s1
    obtain ⟨d3, f1, f2⟩ := items_at r3 (hz zs (q3.mono (s1.trans s2))) s1
    have al : Al H B2 (upd H T (.tup [x, y, z])) (upd B2 T (.tup [x, y, z])) := Al.new s2 hT
    exact ⟨.tup [d1, d2, d3], _, by simp [List.getElem?_zipWith, h1, g1, f1], al, .tup upd_same (.cons (h2.mono al.subB) (.cons (g2.mono al.subB) (.cons (f2.mono al.subB) .nil)))⟩
theorem itr_en {k : Bool} {a : Addr} {xs : List V} {ds : List D} (q : SqB K k B a xs) (r : Reps K B xs ds) : ItR K B (Iten K k a) (ds.mapIdx fun i x => D.tup [.int (i : Nat), x]) where
  go := fun i H hi s => ⟨xs, q.mono s, by rw [r.length]; simpa using hi⟩
  stop := fun H s => ⟨xs, q.mono s, by rw [r.length]; simp⟩
  yld := fun i H v H' B2 hi s1 s2 ⟨T, x, ev, hT, e, hx⟩ => by
    subst ev e
    obtain ⟨d1, h1, h2⟩ := items_at r (hx xs (q.mono (s1.trans s2))) s1
    have al : Al H B2 (upd H T (.tup [.int (i : Nat), x])) (upd B2 T (.tup [.int (i : Nat), x])) := Al.new s2 hT
    exact ⟨.tup [.int (i : Nat), d1], _, by simp [h1], al, .tup upd_same (.cons (.int _) (.cons (h2.mono al.subB) .nil))⟩

/-! ### the rules -/
theorem pi_srcV {ex : Expr} {f : M Sl} (hK : F.K = X.K) (h : PE X ex (tV F W f)) : PI X tg ex (tI F W (srcV f)) := by
  refine ⟨fun pins s σ H R I ⟨B, e, y, n, S, o⟩ => ?_⟩
  refine thn (h.run pins s σ H (fun v H' => ∃ (sl : Sl) (e' : Ev) (B' : Hp), SR F (σ ++ y) H' B' e' ∧ Rep F.K B' v sl.d ∧ ∃ l, seqD sl.d = some l ∧ ∀ J, ItR F.K B' J l → R J H') I ⟨B, e, y, n, S, (OutR.bd o).mono fun sl e' H' B' S' s' k v hv => ?_⟩) fun u s1 ⟨x, H1, I1, rx, sl, e', B', S', rp, l, hl, k⟩ => ?_
  · cases hl : seqD sl.d with
    | none => rw [hl] at k; exact k.elim
    | some l => rw [hl] at k; exact ⟨sl, e', B', S', hv, l, hl, k H' B' S' (.refl _)⟩
  · rw [hK] at rp k
    generalize sl.d = d at rp hl
    cases rp with
    | tup q r =>
      cases hl; cases rx
      obtain ⟨its, rv, p, hz⟩ := I1.tuple (S'.sub.seqT (.inl (.inl q)))
      exact wpAny_pyIter_tuple (show s1.heap.IsTuple _ its.toArray from p) (pi_one (tk := s1.toks) I1 _ (turn_tuple _ _) ⟨_, Heap.get?_push_size _ rfl, rfl, rfl⟩ (k _ (itr_tup (.inl (.inl q)) r)))
    | lst q r =>
      cases hl; cases rx
      obtain ⟨its, rv, p, hz⟩ := I1.list (S'.sub.seqL (SqL.of q))
      exact wpAny_pyIter_list p.isList (pi_one (tk := s1.toks) I1 _ (turn_list _ _) ⟨_, Heap.get?_push_size _ rfl, rfl, rfl⟩ (k _ (itr_list (SqL.of q) r)))
    | rol q r =>
      cases hl; cases rx
      obtain ⟨its, rv, p, hz⟩ := I1.list (S'.sub.seqL q)
      exact wpAny_pyIter_list p.isList (pi_one (tk := s1.toks) I1 _ (turn_list _ _) ⟨_, Heap.get?_push_size _ rfl, rfl, rfl⟩ (k _ (itr_list q r)))
    | str z =>
      cases hl
      obtain ⟨t, rfl⟩ := rx
      cases ha : z.cps.all (· < 128)
      · exact wpAny_pyIter_wide ha (pi_one (tk := s1.toks) I1 _ (turn_str _ z t "str_iterator" (.inr rfl)) ⟨_, Heap.get?_push_size _ rfl, rfl, rfl⟩ (k _ itr_str))
      · exact wpAny_pyIter_ascii ha (pi_one (tk := s1.toks) I1 _ (turn_str _ z t "str_ascii_iterator" (.inl rfl)) ⟨_, Heap.get?_push_size _ rfl, rfl, rfl⟩ (k _ itr_str))
    | dk q ek r =>
      cases hl; cases rx
      obtain ⟨hs, hgd, hx, es, ep, vs, hdt, hsz, kv, hm⟩ := I1.frzK (S'.sub _ _ q)
      refine iter_keys hs hgd hx hdt (pi_one (tk := s1.toks) I1 _ (turn_keys _ hdt) ⟨_, Heap.get?_push_size _ rfl, rfl, ?_⟩ (k _ (by rw [← ek]; exact itr_keys q)))
      rw [hsz] <;> rfl
    | dt q ek r =>
      cases hl; cases rx
      obtain ⟨hs, hgd, hx, es, ep, hdt, hsz, ent⟩ := I1.frzT (S'.sub _ _ q)
      refine iter_keys hs hgd hx hdt (pi_one (tk := s1.toks) I1 _ (turn_keysT _ hdt) ⟨_, Heap.get?_push_size _ rfl, rfl, ?_⟩ (k _ (by rw [← ek]; exact itr_keysT q)))
      rw [hsz] <;> rfl
    | _ => cases hl
theorem pi_imp {ex : Expr} {wi wi' : TI} (h : PI X tg ex wi) (i : ∀ σ H R, wi' σ H R → wi σ H R) : PI X tg ex wi' := ⟨fun pins s σ H R I q => h.run pins s σ H R I (i σ H R q)⟩
/-- a source by its operands -/
theorem src_run {os : List Opd} {σ : St} {H : Hp} {R : It → Hp → Prop} {g : List D → Option (List D)} {f : M (List D)} (hf : ∀ e, f e = bd (opsM os e) fun ds e' => match g ds with
    | some l => .ok l e'
    | none => .bad) (hb : bors F.n os = true) (hv : allVal os = true) (h : tI F W f σ H R) :
    chain F W os σ H fun vs H1 => ∃ B ds l, Sub B H1 ∧ Reps F.K B vs ds ∧ ds.length = os.length ∧ g ds = some l ∧ ∀ J, ItR F.K B J l → R J H1 := by
  obtain ⟨B, e, y, n, S, o⟩ := h
  rw [hf] at o
  refine ops_run os hb n S (OutR.bd o) fun ds e1 H1 B1 vs S1 s1 k1 r1 => ?_
  cases hg : g ds with
  | none => rw [hg] at k1; exact k1.elim
  | some l => rw [hg] at k1; exact ⟨B1, ds, l, S1.sub, r1.reps hv, r1.length.2, hg, k1 H1 B1 S1 (.refl _)⟩
def gRng : List D → Option (List D)
  | [.int j] => if rngOk j then some (rngD 0 j.toNat 1) else none
  | [.int i, .int j] => if rngOk i && rngOk j then some (rngD i (j - i).toNat 1) else none
  | [.int i, .int j, .int c] => if rngOk i && rngOk j && c == -1 then some (rngD i (i - j).toNat (-1)) else none
  | _ => none
def gZip : List D → Option (List D)
  | [a, b] => (match itemsD a, itemsD b with
    | some xs, some ys => some (List.zipWith (fun x y => .tup [x, y]) xs ys)
    | _, _ => none)
  | [a, b, c] => (match itemsD a, itemsD b, itemsD c with
    | some xs, some ys, some zs => some (List.zipWith (fun (p : D × D) z => .tup [p.1, p.2, z]) (List.zipWith Prod.mk xs ys) zs)
    | _, _, _ => none)
  | _ => none
def gEnum : List D → Option (List D)
  | [a] => (match itemsD a with
    | some xs => some (xs.mapIdx fun i x => .tup [.int (i : Nat), x])
    | _ => none)
  | _ => none
/-- a source that a function of its operands tells -/
def srcG (g : List D → Option (List D)) (os : List Opd) : M (List D) := fun e => bd (opsM os e) fun ds e' => match g ds with
  | some l => .ok l e'
  | none => .bad
theorem rng_ok {i : Int} (h : rngOk i = true) : -(2 ^ 62) ≤ i ∧ i < 2 ^ 62 := of_decide_eq_true h
theorem gRng_one {d : D} {l : List D} (h : gRng [d] = some l) : ∃ j, d = .int j ∧ rngOk j = true ∧ l = rngD 0 j.toNat 1 := by
  match d, h with
  | .int j, h =>
    have h : (if rngOk j = true then some (rngD 0 j.toNat 1) else none) = some l := h
    split at h
    · cases h; exact ⟨j, rfl, by assumption, rfl⟩
    · cases h
theorem gRng_two {d d' : D} {l : List D} (h : gRng [d, d'] = some l) : ∃ i j, d = .int i ∧ d' = .int j ∧ rngOk i = true ∧ rngOk j = true ∧ l = rngD i (j - i).toNat 1 := by
  match d, d', h with
  | .int i, .int j, h =>
    have h : (if (rngOk i && rngOk j) = true then some (rngD i (j - i).toNat 1) else none) = some l := h
    split at h
    · rename_i c
      rw [Bool.and_eq_true] at c
      cases h; exact ⟨i, j, rfl, rfl, c.1, c.2, rfl⟩
    · cases h
theorem gRng_three {d d' d'' : D} {l : List D} (h : gRng [d, d', d''] = some l) : ∃ i j, d = .int i ∧ d' = .int j ∧ d'' = .int (-1) ∧ rngOk i = true ∧ rngOk j = true ∧ l = rngD i (i - j).toNat (-1) := by
  match d, d', d'', h with
  | .int i, .int j, .int c, h =>
    have h : (if (rngOk i && rngOk j && c == -1) = true then some (rngD i (i - j).toNat (-1)) else none) = some l := h
    split at h
    · rename_i q
      rw [Bool.and_eq_true, Bool.and_eq_true] at q
      cases h; exact ⟨i, j, rfl, rfl, by rw [eq_of_beq q.2], q.1.1, q.1.2, rfl⟩
    · cases h
theorem pi_rng1 {o1 : Opd} {a : Expr} {p pos : Pos} (hK : F.K = X.K) (hg : Gl X "range") (hm : X.mg "range" = none) (ha : PA X [a] (chain F W [o1])) (na : plainE a = true) (hb : bors F.n [o1] = true) (hv : allVal [o1] = true) : PI X tg (.Call (.Name "range" p) [a] [] pos) (tI F W (srcG gRng [o1])) := by
  refine pi_imp (pi_range1 hg hm ha (by rw [star_one na]; rfl)) fun σ H R h => chain_mono [o1] _ _ _ _ (fun vs H1 ⟨B, ds, l, sb', r, hl, hg, k⟩ => ?_) (src_run (fun _ => rfl) hb hv h)
  rw [hK] at r k
  match ds, r, hl, hg with
  | [d], .cons r .nil, _, hg =>
    obtain ⟨j, rfl, c, rfl⟩ := gRng_one hg
    cases r
    exact ⟨j, rfl, (rng_ok c).1, (rng_ok c).2, k _ itr_range⟩
theorem pi_rng2 {o1 o2 : Opd} {a b : Expr} {p pos : Pos} (hK : F.K = X.K) (hg : Gl X "range") (hm : X.mg "range" = none) (ha : PA X [a, b] (chain F W [o1, o2])) (na : plainE a = true) (nb : plainE b = true) (hb : bors F.n [o1, o2] = true) (hv : allVal [o1, o2] = true) : PI X tg (.Call (.Name "range" p) [a, b] [] pos) (tI F W (srcG gRng [o1, o2])) := by
  refine pi_imp (pi_range2 hg hm ha (by rw [star_one na, star_one nb]; rfl) (by rw [star_one nb]; rfl)) fun σ H R h => chain_mono [o1, o2] _ _ _ _ (fun vs H1 ⟨B, ds, l, sb', r, hl, hg, k⟩ => ?_) (src_run (fun _ => rfl) hb hv h)
  rw [hK] at r k
  match ds, r, hl, hg with
  | [d, d'], .cons r1 (.cons r2 .nil), _, hg =>
    obtain ⟨i, j, rfl, rfl, c1, c2, rfl⟩ := gRng_two hg
    cases r1; cases r2
    exact ⟨i, j, rfl, ⟨(rng_ok c1).1, (rng_ok c1).2, (rng_ok c2).1, (rng_ok c2).2⟩, k _ itr_range⟩
theorem pi_rng3 {o1 o2 o3 : Opd} {a b c : Expr} {p pos : Pos} (hK : F.K = X.K) (hg : Gl X "range") (hm : X.mg "range" = none) (ha : PA X [a, b, c] (chain F W [o1, o2, o3])) (na : plainE a = true) (nb : [b, c].all plainE = true) (hb : bors F.n [o1, o2, o3] = true) (hv : allVal [o1, o2, o3] = true) : PI X tg (.Call (.Name "range" p) [a, b, c] [] pos) (tI F W (srcG gRng [o1, o2, o3])) := by
  refine pi_imp (pi_range3 hg hm ha (star_one na) (star_any nb)) fun σ H R h => chain_mono [o1, o2, o3] _ _ _ _ (fun vs H1 ⟨B, ds, l, sb', r, hl, hg, k⟩ => ?_) (src_run (fun _ => rfl) hb hv h)
  rw [hK] at r k
  match ds, r, hl, hg with
  | [d, d', d''], .cons r1 (.cons r2 (.cons r3 .nil)), _, hg =>
    obtain ⟨i, j, rfl, rfl, rfl, c1, c2, rfl⟩ := gRng_three hg
    cases r1; cases r2; cases r3
    exact ⟨i, j, -1, _, rfl, RgC.neg (rng_ok c1).1 (rng_ok c1).2 (rng_ok c2).1 (rng_ok c2).2, k _ itr_rangeC⟩
theorem refs1 {a : Addr} {us : List Value} (h : Vals [V.ref a] us) : us = [.ref a] := Vals.ref1 h
theorem refs2 {a b : Addr} {us : List Value} (h : Vals [V.ref a, V.ref b] us) : us = [.ref a, .ref b] := by
  cases h with
  | cons r h => cases r; rw [Vals.ref1 h]
theorem refs3 {a b c : Addr} {us : List Value} (h : Vals [V.ref a, V.ref b, V.ref c] us) : us = [.ref a, .ref b, .ref c] := by
  cases h with
  | cons r h => cases r; rw [refs2 h]
theorem gZip_two {d d' : D} {l : List D} (h : gZip [d, d'] = some l) : ∃ xs ys, itemsD d = some xs ∧ itemsD d' = some ys ∧ l = List.zipWith (fun x y => .tup [x, y]) xs ys := by
  cases h1 : itemsD d with
  | none => simp [gZip, h1] at h
  | some xs => cases h2 : itemsD d' with
    | none => simp [gZip, h1, h2] at h
    | some ys => simp [gZip, h1, h2] at h; exact ⟨xs, ys, rfl, rfl, h.symm⟩
theorem gZip_three {d d' d'' : D} {l : List D} (h : gZip [d, d', d''] = some l) : ∃ xs ys zs, itemsD d = some xs ∧ itemsD d' = some ys ∧ itemsD d'' = some zs ∧ l = List.zipWith (fun (p : D × D) z => .tup [p.1, p.2, z]) (List.zipWith Prod.mk xs ys) zs := by
  cases h1 : itemsD d with
  | none => simp [gZip, h1] at h
  | some xs => cases h2 : itemsD d' with
    | none => simp [gZip, h1, h2] at h
    | some ys => cases h3 : itemsD d'' with
      | none => simp [gZip, h1, h2, h3] at h
      | some zs => simp [gZip, h1, h2, h3] at h; exact ⟨xs, ys, zs, rfl, rfl, rfl, h.symm⟩
theorem gEnum_one {d : D} {l : List D} (h : gEnum [d] = some l) : ∃ xs, itemsD d = some xs ∧ l = xs.mapIdx fun i x => .tup [.int (i : Nat), x] := by
  cases h1 : itemsD d with
  | none => simp [gEnum, h1] at h
  | some xs => simp [gEnum, h1] at h; exact ⟨xs, rfl, h.symm⟩
theorem fps {pins : List (Addr × Obj)} {σ : St} {s : Shared} {cs : List Addr} (I : Inv X pins σ H s) (h : ∀ c ∈ cs, s.heap.objs.size ≤ c) : ∀ c ∈ cs, FpOk X pins H c := fun c hc => I.fpOk (h c hc) (I.hok.fresh (h c hc))
theorem pi_zp2 {elts : List Expr} {kk : Nat} {tp : Pos} {o1 o2 : Opd} {a b : Expr} {p pos : Pos} (hc : X.calm = true) (hK : F.K = X.K) (hg : Gl X "zip") (hm : X.mg "zip" = none) (ha : PA X [a, b] (chain F W [o1, o2])) (na : plainE a = true) (nb : [b].all plainE = true) (hb : bors F.n [o1, o2] = true) (hv : allVal [o1, o2] = true) :
    PI X (.Tuple elts kk tp) (.Call (.Name "zip" p) [a, b] [] pos) (tI F W (srcG gZip [o1, o2])) := by
  refine ⟨fun pins s σ H R I h => ?_⟩
  refine Call_ (ld_blt I hg hm PyProof.Rows.boot_zip (PyProof.Rows.callWith_type1 (thn (ha.run pos pins s σ H _ I (src_run (fun _ => rfl) hb hv h)) fun us s1 ⟨vs, H1, I1, rv, B, ds, l, sb', r, hl, hgz, k⟩ => ?_) (star_one na) (star_any nb)))
  rw [hK] at r k
  match ds, r, hl, hgz with
  | [d, d'], .cons (v := v1) r1 (.cons (v := v2) r2 .nil), _, hgz =>
    obtain ⟨xs, ys, e1, e2, rfl⟩ := gZip_two hgz
    obtain ⟨a1, k1, vs1, rfl, q1, p1⟩ := items_sq r1 e1
    obtain ⟨a2, k2, vs2, rfl, q2, p2⟩ := items_sq r2 e2
    rw [refs2 rv]
    obtain ⟨i1, rv1, pl1, _⟩ := inv_sqB I1 (q1.mono sb')
    obtain ⟨i2, rv2, pl2, _⟩ := inv_sqB I1 (q2.mono sb')
    have l1 := isSq_lt pl1
    have l2 := isSq_lt pl2
    refine zip_begins2 (begins_sq k1 a1 i1.toArray) (begins_sq k2 a2 i2.toArray) pl1 pl2 fun h' z1 z2 z3 z4 z5 z6 z7 => wpAny_pyIter_zip z1 ?_
    have I2 : Inv X pins σ H1 { s1 with heap := h' } := I1.kept (t' := s1.toks) z7
    refine ⟨s1.heap.objs.size + 4, [s1.heap.objs.size + 4, s1.heap.objs.size + 2, s1.heap.objs.size + 3, s1.heap.objs.size, s1.heap.objs.size + 1], _, _, H1, rfl, I2, turn_z2 (k1 := k1) (k2 := k2) (a := a1) (b := a2) (zip_sep2 (fp1 := [a1]) (fp2 := [a2]) (fun c hc => by rw [List.mem_singleton.mp hc]; exact l1) (fun c hc => by rw [List.mem_singleton.mp hc]; exact l2)) (Nat.ne_of_lt l1) (Nat.ne_of_lt (Nat.lt_succ_of_lt l2)),
      ⟨z1, z2, ⟨_, _, z3⟩, isIt_new z4, isIt_new z5⟩, fps I1 fun c hc => ?_, k _ (itr_z2 q1 q2 p1 p2)⟩
    simp only [List.mem_cons, List.not_mem_nil, or_false] at hc
    rcases hc with rfl | rfl | rfl | rfl | rfl
    · exact Nat.le_add_right _ _
    · exact Nat.le_add_right _ _
    · exact Nat.le_add_right _ _
    · exact Nat.le_refl _
    · exact Nat.le_add_right _ _
theorem pi_zp3 {elts : List Expr} {kk : Nat} {tp : Pos} {o1 o2 o3 : Opd} {a b c : Expr} {p pos : Pos} (hc : X.calm = true) (hK : F.K = X.K) (hg : Gl X "zip") (hm : X.mg "zip" = none) (ha : PA X [a, b, c] (chain F W [o1, o2, o3])) (na : plainE a = true) (nb : [b, c].all plainE = true) (hb : bors F.n [o1, o2, o3] = true) (hv : allVal [o1, o2, o3] = true) :
    PI X (.Tuple elts kk tp) (.Call (.Name "zip" p) [a, b, c] [] pos) (tI F W (srcG gZip [o1, o2, o3])) := by
  refine ⟨fun pins s σ H R I h => ?_⟩
  refine Call_ (ld_blt I hg hm PyProof.Rows.boot_zip (PyProof.Rows.callWith_type1 (thn (ha.run pos pins s σ H _ I (src_run (fun _ => rfl) hb hv h)) fun us s1 ⟨vs, H1, I1, rv, B, ds, l, sb', r, hl, hgz, k⟩ => ?_) (star_one na) (star_any nb)))
  rw [hK] at r k
  match ds, r, hl, hgz with
  | [d, d', d''], .cons (v := v1) r1 (.cons (v := v2) r2 (.cons (v := v3) r3 .nil)), _, hgz =>
    obtain ⟨xs, ys, zs, e1, e2, e3, rfl⟩ := gZip_three hgz
    obtain ⟨a1, k1, vs1, rfl, q1, p1⟩ := items_sq r1 e1
    obtain ⟨a2, k2, vs2, rfl, q2, p2⟩ := items_sq r2 e2
    obtain ⟨a3, k3, vs3, rfl, q3, p3⟩ := items_sq r3 e3
    rw [refs3 rv]
    obtain ⟨i1, rv1, pl1, _⟩ := inv_sqB I1 (q1.mono sb')
    obtain ⟨i2, rv2, pl2, _⟩ := inv_sqB I1 (q2.mono sb')
    obtain ⟨i3, rv3, pl3, _⟩ := inv_sqB I1 (q3.mono sb')
    have l1 := isSq_lt pl1
    have l2 := isSq_lt pl2
    have l3 := isSq_lt pl3
    refine zip_begins3 (begins_sq k1 a1 i1.toArray) (begins_sq k2 a2 i2.toArray) (begins_sq k3 a3 i3.toArray) pl1 pl2 pl3 fun h' z1 z2 z3 z4 z5 z5' z6 z7 => wpAny_pyIter_zip z1 ?_
    have I2 : Inv X pins σ H1 { s1 with heap := h' } := I1.kept (t' := s1.toks) z7
    refine ⟨s1.heap.objs.size + 5, [s1.heap.objs.size + 5, s1.heap.objs.size + 3, s1.heap.objs.size + 4, s1.heap.objs.size, s1.heap.objs.size + 1, s1.heap.objs.size + 2], _, _, H1, rfl, I2, turn_z3 (k1 := k1) (k2 := k2) (k3 := k3) (a := a1) (b := a2) (c := a3) (zip_sep3 (fp1 := [a1]) (fp2 := [a2]) (fp3 := [a3]) (fun c hc => by rw [List.mem_singleton.mp hc]; exact l1) (fun c hc => by rw [List.mem_singleton.mp hc]; exact l2) (fun c hc => by rw [List.mem_singleton.mp hc]; exact l3)) (Nat.ne_of_lt l1) (Nat.ne_of_lt (Nat.lt_succ_of_lt l2)) (Nat.ne_of_lt (Nat.lt_succ_of_lt (Nat.lt_succ_of_lt l3))),
      ⟨z1, z2, ⟨_, _, _, z3⟩, isIt_new z4, isIt_new z5, isIt_new z5'⟩, fps I1 fun c hc => ?_, k _ (itr_z3 q1 q2 q3 p1 p2 p3)⟩
    simp only [List.mem_cons, List.not_mem_nil, or_false] at hc
    rcases hc with rfl | rfl | rfl | rfl | rfl | rfl
    · exact Nat.le_add_right _ _
    · exact Nat.le_add_right _ _
    · exact Nat.le_add_right _ _
    · exact Nat.le_refl _
    · exact Nat.le_add_right _ _
    · exact Nat.le_add_right _ _
theorem pi_enm {elts : List Expr} {kk : Nat} {tp : Pos} {o1 : Opd} {a : Expr} {p pos : Pos} (hc : X.calm = true) (hK : F.K = X.K) (hg : Gl X "enumerate") (hm : X.mg "enumerate" = none) (ha : PA X [a] (chain F W [o1])) (na : plainE a = true) (hb : bors F.n [o1] = true) (hv : allVal [o1] = true) :
    PI X (.Tuple elts kk tp) (.Call (.Name "enumerate" p) [a] [] pos) (tI F W (srcG gEnum [o1])) := by
  refine ⟨fun pins s σ H R I h => ?_⟩
  refine Call_ (ld_blt I hg hm boot_enumerate (PyProof.Rows.callWith_type1 (thn (ha.run pos pins s σ H _ I (src_run (fun _ => rfl) hb hv h)) fun us s1 ⟨vs, H1, I1, rv, B, ds, l, sb', r, hl, hgz, k⟩ => ?_) (star_one na) (star_any rfl)))
  rw [hK] at r k
  match ds, r, hl, hgz with
  | [d], .cons (v := v1) r1 .nil, _, hgz =>
    obtain ⟨xs, e1, rfl⟩ := gEnum_one hgz
    obtain ⟨a1, k1, vs1, rfl, q1, p1⟩ := items_sq r1 e1
    rw [refs1 rv]
    obtain ⟨i1, rv1, pl1, _⟩ := inv_sqB I1 (q1.mono sb')
    have l1 := isSq_lt pl1
    refine enum_begins1 (begins_sq k1 a1 i1.toArray) pl1 fun h' z1 z4 z7 => wpAny_pyIter_enum z1 ?_
    have I2 : Inv X pins σ H1 { s1 with heap := h' } := I1.kept (t' := s1.toks) z7
    refine ⟨s1.heap.objs.size + 1, [s1.heap.objs.size + 1, s1.heap.objs.size], _, _, H1, rfl, I2, turn_en (k := k1) (a := a1) (Nat.ne_of_lt l1) (Nat.succ_ne_self _) (Nat.ne_of_gt (Nat.lt_succ_of_lt l1)), ⟨⟨_, z1⟩, isIt_new z4⟩, fps I1 fun c hc => ?_, k _ (itr_en q1 p1)⟩
    simp only [List.mem_cons, List.not_mem_nil, or_false] at hc
    rcases hc with rfl | rfl
    · exact Nat.le_add_right _ _
    · exact Nat.le_refl _
end
end DL

end
section
set_option maxRecDepth 100000
set_option maxHeartbeats 2000000
/-! DB7: what a frame owns is changed: methods of a slot's list, stores into it. -/
namespace DL
open PySem PySem.Spec PyProof.Rows L2

/-- a method of the thing in slot i, of class T -/
def eMut (T : String) (i : Nat) (g : D → List D → Option (D × D)) (os : List Opd) : M Sl := fun e => match e[i]? with
  | some (some s) => if s.isOwn && tyD s.d == T then bd (opsM os e) fun ds e' => (match e'[i]? with
    | some (some s') => if s'.isOwn then (match g s'.d ds with
      | some (d', r) => .ok (.sh r) (e'.set i (some (s'.wd d')))
      | none => .bad) else .bad
    | _ => .bad) else .bad
  | _ => .bad
/-- x[k] = v of the thing in slot i -/
def gSet : D → D → D → Option D
  | .lst ds, .int k, v => (match ixN ds.length k with
    | some j => some (.lst (ds.set j v))
    | none => none)
  | d, a, v => dPut d a v
def sStore (i : Nat) (fv fk : M Sl) : M Fl := fun e => bd (opsM [.val fv, .bor i, .val fk] e) fun ds e2 => match ds with
  | [s, _, k] => (match e2[i]? with
    | some (some t) => if t.isOwn then (match gSet t.d k s with
      | some d' => .ok .nx (e2.set i (some (t.wd d')))
      | none => .bad) else .bad
    | _ => .bad)
  | _ => .bad
/-- what a method asks and gives: the object at p turns from d to d' -/
def rMu (K : PySem.W.Frag) (g : D → List D → Option (D × D)) (x : V) (xs : List V) (H : Hp) (Q : VK) : Prop := ∃ B p d ds d' r, x = .ref p ∧ B p = none ∧ Sub B H ∧ Own K H B p d ∧ Reps K B xs ds ∧ g d ds = some (d', r) ∧
  ∀ v H' B', Sub B B' → Sub B' H' → (∀ a, Ch H a → B' a = B a) → (∀ a o, H a = some o → a ≠ p → H' a = some o) → Own K H' B' p d' → Rep K B' v r → Q v H'
section
variable {X : Cx} {F : Fr} {W : WX} {K : PySem.W.Frag} {B H : Hp}
/-- only the object at p is written -/
theorem rMu.upd {p : Addr} {o : HO} {Q : VK} {d' r : D} {v : V} (nB : B p = none) (sb : Sub B H) (k : ∀ v H' B', Sub B B' → Sub B' H' → (∀ a, Ch H a → B' a = B a) → (∀ a o, H a = some o → a ≠ p → H' a = some o) → Own K H' B' p d' → Rep K B' v r → Q v H') (ow : Own K (upd H p o) B p d') (rp : Rep K B v r) : Q v (upd H p o) :=
  k v _ B (.refl _) (fun a u e => by
    have q : a ≠ p := fun z => by subst z; rw [nB] at e; cases e
    rw [upd_ne q]; exact sb a u e) (fun _ _ => rfl) (fun a u e ne => by rw [upd_ne ne]; exact e) ow rp
theorem own_ty {p : Addr} {d : D} {T : String} (h : Own K H B p d) (e : tyD d = T) : tyV K T (.ref p) H := by
  subst e
  cases d with
  | lst ds => obtain ⟨xs, h1, _⟩ := h; exact .inl ⟨rfl, xs, .of h1⟩
  | dk ks vs => obtain ⟨xs, h1, _⟩ := h; exact .inr (.inr (.inl ⟨rfl, .inl ⟨xs, h1⟩⟩))
  | dt ks vs => obtain ⟨xs, h1, _⟩ := h; exact .inr (.inr (.inl ⟨rfl, .inr ⟨xs, h1⟩⟩))
  | _ => exact h.elim
theorem eMut_run {T : String} {i : Nat} {g : D → List D → Option (D × D)} {os : List Opd} {σ : St} {H : Hp} {Q : VK} (hi : i < F.n) (hb : bors F.n os = true) (hv : allVal os = true) (h : tE F W (eMut T i g os) σ H Q) : tVar i σ H fun x H1 => tyV F.K T x H1 ∧ chain F W os σ H1 fun xs H2 => rMu F.K g x xs H2 Q := by
  obtain ⟨B, e, y, n, S, o⟩ := h
  have ag : (σ ++ y)[i]? = σ[i]? := app_get (by rw [n]; exact hi)
  unfold eMut at o
  split at o
  · rename_i s hs
    split at o
    · rename_i c
      simp only [Bool.and_eq_true, beq_iff_eq] at c
      obtain ⟨p, z1, z2, z3⟩ := (S.sl _ _ hs).own c.1
      refine ⟨.ref p, by rw [← ag]; exact z1, own_ty z3 c.2, ?_⟩
      refine ops_run os hb n S (OutR.bd o) fun ds e1 H1 B1 vs S1 s1 k1 r1 => ?_
      split at k1
      · rename_i s' hs'
        split at k1
        · rename_i c'
          split at k1
          · rename_i d' r hg
            obtain ⟨p', w1, w2, w3⟩ := (S1.sl _ _ hs').own c'
            have e1 : p' = p := by rw [z1] at w1; cases w1; rfl
            subst e1
            refine ⟨B1, p', s'.d, ds, d', r, rfl, w2, S1.sub, w3, r1.reps hv, hg, fun v H' B' a1 a2 a3 a4 a5 a6 => ?_⟩
            exact k1 H' B' (S1.call hs' c' w1 a1 a2 a3 a4 a5) a1 v a6
          · exact k1.elim
        · exact k1.elim
      · exact k1.elim
    · exact o.elim
  · exact o.elim
theorem de_mut {T id : String} {name : Str} {i : Nat} {g : D → List D → Option (D × D)} {o e : Expr} {es : List Expr} {os : List Opd} {apos cpos : Pos} (hK : F.K = X.K) (pa : PlainAttrs T) (slot : Slot T name id) (hty : typeOf (.builtin id) = pure (.type "method_descriptor")) (hm : MtR X id (rMu X.K g)) (ho : PE X o (tVar i)) (hi : i < F.n) (ha : PA X (e :: es) (chain F W os)) (hb : bors F.n os = true) (hv : allVal os = true)
    (hbase : attributeBase o name X.env (eval o X.env) = eval o X.env) (hline : (apos.endLine == cpos.line) = true) (hpl : (e :: es).all plainE = true) (hfew : (e :: es).length < 20) : PE X (.Call (.Attribute o name apos) (e :: es) [] cpos) (tE F W (eMut T i g os)) := by
  have ps : plainE e = true ∧ es.all plainE = true := by simpa using hpl
  refine (pe_bm pa slot hty hm ho ha hbase ?_ hline (star_one ps.1) (star_any ps.2)).imp fun σ H Q q => ?_
  · have e1 : (backTo cpos (starEach (e :: es) X.env)).any (·.1) = false := star_any hpl
    have e2 : (backTo cpos (starEach (e :: es) X.env)).all (fun x => !x.1) = true := by
      rw [← List.not_any_eq_all_not, e1]; rfl
    rw [e2]
    simp [backToKw, keywordEach]
    simp at hfew
    omega
  · obtain ⟨x, h1, h2, h3⟩ := eMut_run hi hb hv q
    rw [hK] at h2 h3
    exact ⟨x, h1, h2, h3⟩
theorem de_mut0 {T id : String} {name : Str} {i : Nat} {g : D → List D → Option (D × D)} {o : Expr} {apos cpos : Pos} (hK : F.K = X.K) (pa : PlainAttrs T) (slot : Slot T name id) (hty : typeOf (.builtin id) = pure (.type "method_descriptor")) (hm : MtR X id (rMu X.K g)) (ho : PE X o (tVar i)) (hi : i < F.n)
    (hbase : attributeBase o name X.env (eval o X.env) = eval o X.env) (hline : (apos.endLine == cpos.line) = true) : PE X (.Call (.Attribute o name apos) [] [] cpos) (tE F W (eMut T i g [])) :=
  (pe_bm0 pa slot hty hm ho hbase hline).imp fun σ H Q q => by
    obtain ⟨x, h1, h2, h3⟩ := eMut_run (os := []) hi rfl rfl q
    rw [hK] at h2 h3
    exact ⟨x, h1, h2, h3⟩
/-! lists -/
def gApp : D → List D → Option (D × D)
  | .lst ds, [d] => if decide (ds.length < sizeLine) then some (.lst (ds ++ [d]), .non) else none
  | _, _ => none
def gExt : D → List D → Option (D × D)
  | .lst ds, [.lst es] => if decide (ds.length + es.length ≤ sizeLine) then some (.lst (ds ++ es), .non) else none
  | _, _ => none
def gPop : D → List D → Option (D × D)
  | .lst ds, [] => (match ds[ds.length - 1]? with
    | some d => some (.lst ds.dropLast, d)
    | none => none)
  | .lst ds, [.int i] => if decide (-(2 ^ 63) ≤ i ∧ i < 2 ^ 63) then (match seqIndex? i ds.length with
    | some k => (match ds[k]? with
      | some d => some (.lst (ds.eraseIdx k), d)
      | none => none)
    | none => none) else none
  | _, _ => none
theorem ifT2 {c : Bool} {r : Option (D × D)} {s : D × D} (h : (if c then r else none) = some s) : c = true ∧ r = some s := by
  cases c with
  | true => exact ⟨rfl, h⟩
  | false => cases h
theorem mg_app : MtR X "list.append" (rMu X.K gApp) := by
  intro pins s σ H x vs v us Q I rx rv ⟨B, p, d, ds, d', r, ex, nB, sb, ow, rp, hg, k⟩
  subst ex
  match d, ds, ow, rp, hg with
  | .lst ls, [a], ⟨xs, h1, h2⟩, .cons ra .nil, hg =>
    obtain ⟨c, e⟩ := ifT2 hg
    cases e
    exact mt_append pins s σ H _ _ v us Q I rx rv ⟨p, xs, _, rfl, rfl, h1, by rw [h2.length]; exact of_decide_eq_true c, rMu.upd nB sb k ⟨_, upd_same, h2.append (.cons ra .nil)⟩ .non⟩
theorem mg_pop0 : MtR X "list.pop" (rMu X.K gPop) := by
  intro pins s σ H x vs v us Q I rx rv ⟨B, p, d, ds, d', r, ex, nB, sb, ow, rp, hg, k⟩
  subst ex
  match d, ds, ow, rp, hg with
  | .lst ls, [], ⟨xs, h1, h2⟩, .nil, hg =>
    have hg : (match ls[ls.length - 1]? with | some d => some (D.lst ls.dropLast, d) | none => none) = some (d', r) := hg
    cases hd : ls[ls.length - 1]? with
    | none => rw [hd] at hg; cases hg
    | some d =>
      rw [hd] at hg
      cases hg
      obtain ⟨y, g1, g2⟩ := h2.get' hd
      exact mt_pop pins s σ H _ _ v us Q I rx rv ⟨p, xs, y, rfl, rfl, h1, by rw [h2.length]; exact g1, rMu.upd nB sb k ⟨_, upd_same, h2.dropLast⟩ g2⟩
  | .lst ls, [.int i], ⟨xs, h1, h2⟩, .cons ra .nil, hg =>
    cases ra
    obtain ⟨c, e⟩ := ifT2 hg
    cases hs : seqIndex? i ls.length with
    | none => rw [hs] at e; cases e
    | some j =>
      rw [hs] at e
      have e : (match ls[j]? with | some d => some (D.lst (ls.eraseIdx j), d) | none => none) = some (d', r) := e
      cases hd : ls[j]? with
      | none => rw [hd] at e; cases e
      | some d =>
        rw [hd] at e
        cases e
        obtain ⟨y, g1, g2⟩ := h2.get' hd
        have c := of_decide_eq_true c
        exact mt_popAt pins s σ H _ _ v us Q I rx rv ⟨p, xs, i, j, y, rfl, rfl, h1, c.1, c.2, by rw [h2.length]; exact hs, g1, rMu.upd nB sb k ⟨_, upd_same, h2.eraseIdx j⟩ g2⟩
theorem mg_ext : MtR X "list.extend" (rMu X.K gExt) := by
  intro pins s σ H x vs v us Q I rx rv ⟨B, p, d, ds, d', r, ex, nB, sb, ow, rp, hg, k⟩
  subst ex
  match d, ds, ow, rp, hg with
  | .lst ls, [.lst es], ⟨xs, h1, h2⟩, .cons ra .nil, hg =>
    obtain ⟨c, e⟩ := ifT2 hg
    cases e
    cases ra with
    | lst q1 q2 => exact mt_extend pins s σ H _ _ v us Q I rx rv ⟨p, _, xs, _, rfl, rfl, h1, sb _ _ q1, by rw [h2.length, q2.length]; exact of_decide_eq_true c, rMu.upd nB sb k ⟨_, upd_same, h2.append q2⟩ .non⟩

/-! stores -/
def rPutD (K : PySem.W.Frag) : TSet := fun o i v H Q => ∃ B p d a b d', o = .ref p ∧ B p = none ∧ Sub B H ∧ Own K H B p d ∧ Rep K B i a ∧ Rep K B v b ∧ gSet d a b = some d' ∧
  ∀ H' B', Sub B B' → Sub B' H' → (∀ a, Ch H a → B' a = B a) → (∀ a o, H a = some o → a ≠ p → H' a = some o) → Own K H' B' p d' → Q H'
theorem put_d (hu : X.A.units + 1 < cLine) : PSet X (rPutD X.K) := by
  intro pins s σ H o i v ov iv u Q I ro ri rv ⟨B, p, d, a, b, d', eo, nB, sb, ow, r1, r2, hg, k⟩
  subst eo
  by_cases hd : dPut d a b = some d'
  · obtain ⟨w, g, ow'⟩ := dPut_ok sb ow nB (.inl r1) r2 hd
    exact set_dict hu pins s σ H _ _ _ ov iv u Q I ro ri rv ⟨p, _, rfl, g, rMu.upd (Q := fun _ H' => Q H') (v := .non) (r := .non) nB sb (fun _ H' B' a1 a2 a3 a4 a5 _ => k H' B' a1 a2 a3 a4 a5) ow' .non⟩
  match d, a, ow, r1, hg, hd with
  | .dk _ _, _, _, _, hg, hd => exact absurd hg hd
  | .dt _ _, _, _, _, hg, hd => exact absurd hg hd
  | .lst ls, .int j, ⟨xs, h1, h2⟩, r1, hg, hd =>
    cases r1
    have hg : (match ixN ls.length j with | some m => some (D.lst (ls.set m b)) | none => none) = some d' := hg
    cases hj : ixN ls.length j with
    | none => rw [hj] at hg; cases hg
    | some m =>
      rw [hj] at hg
      cases hg
      refine set_list pins s σ H _ _ _ ov iv u Q I ro ri rv ⟨p, xs, j, m, rfl, rfl, h1, by rw [h2.length]; exact hj, ?_⟩
      exact rMu.upd (Q := fun _ H' => Q H') (v := .non) (r := .non) nB sb (fun _ H' B' a1 a2 a3 a4 a5 _ => k H' B' a1 a2 a3 a4 a5) ⟨_, upd_same, h2.set r2 m⟩ .non
theorem ds_store {i : Nat} {fv fk : M Sl} {o k ex : Expr} {pos tpos : Pos} (hu : X.A.units + 1 < cLine) (hK : F.K = X.K) (hi : i < F.n) (hv : PE X ex (tV F W fv)) (ho : PE X o (tVar i)) (hk : PE X k (tV F W fk)) (hs : swapsWithSole [.Subscript o k tpos] ex pos.line X.env = pure false) (hw : swappedStores [.Subscript o k tpos] ex X.env = pure none)
    (ha : ∀ v, assign (.Subscript o k tpos) X.env v = (do
      let ov ← holding [v] (eval o X.env)
      let iv ← holding [v, ov] (eval k X.env)
      standAt tpos
      holding [v, ov, iv] (setItem ov iv v)
      release [v, ov, iv] []))
    (h1 : (assignEach [.Subscript o k tpos] X.env).map (·.2) = [assign (.Subscript o k tpos) X.env]) : PS X (.Assign [.Subscript o k tpos] ex pos) (tS F W (sStore i fv fk)) := by
  refine (ps_asg hv (pg_sub ho hk (put_d hu) ha) hs hw h1).imp fun D σ H ⟨B, e, n, S, q⟩ => ?_
  have z : chain F W [.val fv, .bor i, .val fk] σ H (fun vs H3 => ∃ x o k, vs = [x, o, k] ∧ rPutD X.K o k x H3 fun H4 => D.nx σ H4) := by
    refine ops_run [.val fv, .bor i, .val fk] (by simp [bors, hi]) n S.nil (OutS.bd n q) fun ds e2 H2 B2 vs S2 s2 k2 r2 => ?_
    cases r2 with
    | val rs r3 => cases r3 with
    | bor z1 z2 r4 => cases r4 with
    | val rk r5 =>
      cases r5
      rename_i x s o' t kx k
      refine ⟨x, o', kx, rfl, ?_⟩
      have k2 : OutS F W B2 (match e2[i]? with
        | some (some t) => if t.isOwn then (match gSet t.d k s with
          | some d' => R.ok Fl.nx (e2.set i (some (t.wd d')))
          | none => .bad) else .bad
        | _ => .bad) D := k2
      rw [z2] at k2
      have k2 : OutS F W B2 (if t.isOwn then (match gSet t.d k s with
          | some d' => R.ok Fl.nx (e2.set i (some (t.wd d')))
          | none => .bad) else .bad) D := k2
      cases ho : t.isOwn with
      | false => rw [ho] at k2; exact k2.elim
      | true =>
        rw [ho, if_pos rfl] at k2
        cases hg : gSet t.d k s with
        | none => rw [hg] at k2; exact k2.elim
        | some d' =>
          rw [hg] at k2
          obtain ⟨p, w1, w2, w3⟩ := (S2.sl _ _ z2).own ho
          rw [z1] at w1
          cases w1
          rw [← hK]
          exact ⟨B2, p, t.d, k, s, d', rfl, w2, S2.sub, w3, rk, rs, hg, fun H' B' a1 a2 a3 a4 a5 => k2 σ H' B' n (S2.call z2 ho z1 a1 a2 a3 a4 a5).unnil a1⟩
  have z' : tO F W (.val fv) σ H fun x H1 => tO F W (.bor i) σ H1 fun o H2 => tO F W (.val fk) σ H2 fun k H3 => ∃ x' o' k', [x, o, k] = [x', o', k'] ∧ rPutD X.K o' k' x' H3 fun H4 => D.nx σ H4 := z
  refine tO_mono (.val fv) σ H _ _ (fun x H1 q1 => ?_) z'
  refine tO_mono (F := F) (W := W) (.bor i) σ H1 _ _ (fun o H2 q2 => ?_) q1
  refine tO_mono (.val fk) σ H2 _ _ (fun k H3 ⟨x', o', k', e3, q3⟩ => ?_) q2
  cases e3
  exact q3
end
end DL

end
section
set_option maxRecDepth 100000
set_option maxHeartbeats 2000000
/-! DB8: slices with both ends, none, with a step. -/
namespace DL
open PySem PySem.Spec PyProof.Rows L2

/-- the items of a list by a step -/
def pickL {α : Type} (xs : List α) (lo hi : Option Int) (st : Int) : List α := (sliceRange (sliceBounds lo hi (some st) xs.length).1 (sliceBounds lo hi (some st) xs.length).2.1 (sliceBounds lo hi (some st) xs.length).2.2).filterMap (xs[·]?)
/-- of a tuple -/
def pickT {α : Type} (xs : List α) (lo hi : Option Int) (st : Int) : List α := (List.range (Builtin.Slice.slicePlaces (Builtin.Slice.sliceAdjust lo hi st xs.length).1 (Builtin.Slice.sliceAdjust lo hi st xs.length).2 st)).filterMap fun m => xs[((Builtin.Slice.sliceAdjust lo hi st xs.length).1 + (m : Nat) * st).toNat]?
def gStep (lo : Option Int) (st : Int) : D → Option Sl
  | .lst ds => if decide (st ≠ 0) then sl (pickL ds lo none st) else none
  | .tup ds => if decide (st ≠ 0 ∧ st ≠ 1) then fits (pickT ds lo none st).length (DL.st (pickT ds lo none st)) else none
  | _ => none
def gStep01 : D → D → Option Sl := fun a b => match b with
  | .int k => gStep none k a
  | _ => none
def gStep11 : D → D → D → Option Sl := fun a b c => match b, c with
  | .int i, .int k => gStep (some i) k a
  | _, _ => none
section
variable {P : Program} {w : World} {A : Around} {E : Value → Shared → Prop} {s : Shared}
theorem applied_step {sl : Addr} {vl vu vk : Value} {lo hi : Option Int} {k : Int} {n : Nat} {Q : Int × Int × Nat → Shared → Prop} (hs : s.heap.IsSliceOf sl vl vu vk) (pl : IsPart vl lo) (pu : IsPart vu hi) (pk : IsPart vk (some k)) (k0 : k ≠ 0)
    (fin : Q ((Builtin.Slice.sliceAdjust lo hi k n).1, k, Builtin.Slice.slicePlaces (Builtin.Slice.sliceAdjust lo hi k n).1 (Builtin.Slice.sliceAdjust lo hi k n).2 k) s) : wpAny (model P w) A (Builtin.Slice.sliceApplied (.ref sl) (pure (n : Int))) Q E s := by
  obtain ⟨ob, go, _, da⟩ := id hs
  unfold Builtin.Slice.sliceApplied Builtin.Slice.sliceFields
  refine wpAny_bind (wpAny_bind (wpAny_field go da (x := vl) rfl (wpAny_bind (wpAny_field go da (x := vu) rfl (wpAny_bind (wpAny_field go da (x := vk) rfl (wpAny_pure ?_)))))))
  refine wpAny_bind (HT.slicePart_ pk ?_)
  show wpAny _ _ (if (k == 0) = true then _ else _) _ _ s
  rw [if_neg (by simpa using k0)]
  refine wpAny_bind (HT.slicePart_ pl (wpAny_bind (HT.slicePart_ pu (wpAny_bind (wpAny_pure ?_)))))
  exact wpAny_pure fin
theorem tuple_step {t sl : Addr} {its : Array Value} {vl vu vk : Value} {lo hi : Option Int} {k : Int} {Q : Value → Shared → Prop} (ht : IsTup s.heap t its) (hs : s.heap.IsSliceOf sl vl vu vk) (pl : IsPart vl lo) (pu : IsPart vu hi) (pk : IsPart vk (some k)) (k0 : k ≠ 0) (k1 : k ≠ 1)
    (fin : Q (.ref s.heap.objs.size) { s with heap := s.heap.push { cls := .type "tuple", data := .seq (pickT its.toList lo hi k).toArray } }) (hz : (pickT its.toList lo hi k).length ≤ sizeLine) : wpAny (model P w) A (getItem (.ref t) (.ref sl)) Q E s := by
  obtain ⟨ob, go, co, da⟩ := id hs
  have ty : s.TypeIs (.ref sl) "slice" := ⟨ob, go, co⟩
  have so : sizeOk (.seq (pickT its.toList lo hi k).toArray) := by
    show (pickT its.toList lo hi k).toArray.size ≤ sizeLine
    simpa using hz
  unfold getItem
  try with_reducible refine wpAny_holding ?_
  first | refine wpAny_bind (wpAny_pure ?_) | skip
  refine wpAny_bind (wpAny_sequenceKey ht.typeIs (by decide) ?_)
  refine wpAny_bind (wpAny_callSpecial?_slot (name := Str.ofString "__getitem__") ht.typeIs PyProof.Rows.slot_tuple_getitem (wpAny_call_entry PyProof.Rows.slot_tuple_getitem ht.typeIs PyProof.Rows.entry_tuple_getitem ?_ (PyProof.Rows.args_tuple_getitem _ _)))
  show wpAny _ _ (Builtin.Tuple.tupleItemsOf (.ref t) >>= _) _ _ s
  refine wpAny_bind (PyProof.Rows.tupleItemsOf_ ht ?_)
  refine wpAny_bind (wpAny_typeOf ty ?_)
  rw [if_pos (by decide)]
  refine wpAny_bind (applied_step (n := its.size) hs pl pu pk k0 ?_)
  have no : ∀ (i : Int) (c : Nat), ¬ ((i == 0 && k == 1 && c == its.size) = true) := fun i c q => by
    simp only [Bool.and_eq_true, beq_iff_eq] at q
    exact k1 q.1.2
  show wpAny _ _ (if _ then _ else _) _ _ s
  rw [if_neg (no _ _)]
  have e : ((List.range (Builtin.Slice.slicePlaces (Builtin.Slice.sliceAdjust lo hi k its.size).1 (Builtin.Slice.sliceAdjust lo hi k its.size).2 k)).filterMap fun m => its[((Builtin.Slice.sliceAdjust lo hi k its.size).1 + (m : Nat) * k).toNat]?) = pickT its.toList lo hi k := by
    unfold pickT
    simp
  first
    | (rw [e]; exact wpAny_bind (m := Builtin.Tuple.tupleExact _) (wpAny_newObj_type (wpAny_pure ⟨_, rfl, wpAny_pure fin⟩) so))
    | (rw [e]; exact wpAny_bind (m := Builtin.Tuple.tupleExact _) (wpAny_newObj_type (wpAny_bind (wpAny_pure (wpAny_pure ⟨_, rfl, wpAny_pure fin⟩))) so))
    | (rw [e]; exact wpAny_bind (wpAny_bind (m := Builtin.Tuple.tupleExact _) (wpAny_newObj_type (wpAny_pure (wpAny_pure ⟨_, rfl, wpAny_pure fin⟩)) so)))
    | (rw [e]; exact wpAny_bind (wpAny_bind (m := Builtin.Tuple.tupleExact _) (wpAny_newObj_type (wpAny_pure ⟨_, rfl, wpAny_pure fin⟩) so)))
end
section
variable {X : Cx} {F : Fr} {W : WX} {K : PySem.W.Frag} {B H : Hp}
theorem vals_pick {xs : List V} {us : List Value} (r : Vals xs us) (f : Nat → Nat) : ∀ l : List Nat, Vals (l.filterMap fun m => xs[f m]?) (l.filterMap fun m => us[f m]?)
  | [] => .nil
  | m :: l => by
    cases hx : xs[f m]? with
    | none =>
      have hu : us[f m]? = none := by
        rw [List.getElem?_eq_none_iff] at hx ⊢
        rw [← r.length]; exact hx
      simp only [List.filterMap_cons, hx, hu]
      exact vals_pick r f l
    | some x =>
      obtain ⟨u, h1, h2⟩ := r.get hx
      simp only [List.filterMap_cons, hx, h1]
      exact .cons h2 (vals_pick r f l)
theorem reps_pick {xs : List V} {ds : List D} (r : Reps K B xs ds) (f : Nat → Nat) : ∀ l : List Nat, Reps K B (l.filterMap fun m => xs[f m]?) (l.filterMap fun m => ds[f m]?)
  | [] => .nil
  | m :: l => by
    cases hx : xs[f m]? with
    | none =>
      have hu : ds[f m]? = none := by
        rw [List.getElem?_eq_none_iff] at hx ⊢
        rw [← r.length]; exact hx
      simp only [List.filterMap_cons, hx, hu]
      exact reps_pick r f l
    | some x =>
      obtain ⟨u, h1, h2⟩ := r.get hx
      simp only [List.filterMap_cons, hx, h1]
      exact .cons h2 (reps_pick r f l)
theorem vals_pickT {xs : List V} {us : List Value} (r : Vals xs us) (lo hi : Option Int) (k : Int) : Vals (pickT xs lo hi k) (pickT us lo hi k) := by
  unfold pickT
  rw [← r.length]
  exact vals_pick r _ _
theorem reps_pickT {xs : List V} {ds : List D} (r : Reps K B xs ds) (lo hi : Option Int) (k : Int) : Reps K B (pickT xs lo hi k) (pickT ds lo hi k) := by
  unfold pickT
  rw [← r.length]
  exact reps_pick r _ _
theorem vals_pickL {xs : List V} {us : List Value} (r : Vals xs us) (lo hi : Option Int) (k : Int) : Vals (pickL xs lo hi k) (pickL us lo hi k) := by
  unfold pickL
  rw [← r.length]
  exact vals_pick r (fun i => i) _
theorem reps_pickL {xs : List V} {ds : List D} (r : Reps K B xs ds) (lo hi : Option Int) (k : Int) : Reps K B (pickL xs lo hi k) (pickL ds lo hi k) := by
  unfold pickL
  rw [← r.length]
  exact reps_pick r (fun i => i) _
def tSlS (te : TE) (tl : TO) (tk : TE) (r : V → Option Int → Int → Hp → VK → Prop) : TE := fun σ H Q => te σ H fun x H1 => tl σ H1 fun l H2 => tk σ H2 fun y H3 => ∃ k, y = .int k ∧ r x l k H3 Q
theorem pe_sliceS {e k : Expr} {te tk : TE} {lo : Option Expr} {tl : TO} {pos p2 : Pos} (he : PE X e te) (hl : PO X lo tl) (hk : PE X k tk) : PE X (.Subscript e (.Slice lo none (some k) p2) pos) (tSlS te tl tk fun x l k H Q => rG1 X.K (gStep l k) x H Q) := by
  refine ⟨fun pins s σ H Q I h => ?_⟩
  refine Subscript_ (thn (he.run pins s σ H _ I h) fun v s1 ⟨x, H1, I1, r1, q1⟩ => ?_)
  refine wpAny_Slice (thn (hl.run pins s1 σ H1 _ I1 q1) fun vl s2 ⟨l, H2, I2, pl, q2⟩ => ?_)
  refine thn (po_none.run pins s2 σ H2 (fun o H3 => o = none ∧ H3 = H2) I2 ⟨rfl, rfl⟩) fun vu s3 ⟨u, H3, I3, pu, eu, e3⟩ => ?_
  subst eu e3
  refine thn ((po_some hk).run pins s3 σ H3 (fun o H4 => match o with
    | some k => rG1 X.K (gStep l k) x H4 Q
    | none => False) I3 q2) fun vs s4 ⟨o, H4, I4, ps, q4⟩ => ?_
  have I5 : Inv X pins σ H4 { s4 with heap := s4.heap.push { cls := .type "slice", data := .fields #[vl, vu, vs] } } := I4.kept (t' := s4.toks) fun b ob q => Heap.get?_push_of_some _ q
  cases o with
  | none => exact q4.elim
  | some c =>
    obtain ⟨B, a, q, sb', ra, hg, kk⟩ := q4
    show wpAny (model X.prog X.w) X.A (subscriptTail e (.Slice lo none (some k) p2) v (.ref s4.heap.objs.size)) (EP X pins σ Q) X.xe { s4 with heap := s4.heap.push { cls := .type "slice", data := .fields #[vl, vu, vs] } }
    match a, ra, hg with
    | .lst ds, ra, hg =>
      obtain ⟨p, xs, rfl, h1, h2⟩ := ra.lst sb'
      obtain ⟨c0, ez⟩ := ifT hg
      cases ez
      cases r1
      obtain ⟨its, r, ht, hz⟩ := I5.list (SqL.of h1)
      refine tail_any (ops := [.ref p, .ref s4.heap.objs.size]) ht.isList.typeIs (PySem.slot_list_getitem.lookup) ?_ (by with_unfolding_all rfl)
      refine wpAny_getItem_list_slice ht.isList (Heap.IsSliceOf.new _ vl vu vs) pl pu ps (by simpa using of_decide_eq_true c0) ?_ (by rw [List.size_toArray, ← r.length]; exact hz)
      have ep : slicePick its.toArray l none (some c) = (pickL its l none c).toArray := by unfold slicePick pickL; simp
      rw [ep]
      have vp := vals_pickL r l none c
      have lz : (pickL xs l none c).length ≤ sizeLine := by
        have := slicePick_size_le its.toArray l none (some c)
        rw [ep, List.size_toArray, List.size_toArray, ← vp.length, ← r.length] at this
        omega
      have hn : H4 (s4.heap.push { cls := .type "slice", data := .fields #[vl, vu, vs] }).objs.size = none := I5.hok.fresh (Nat.le_refl _)
      exact ⟨.ref _, _, I5.laid (t' := s4.toks) (o := .lst (pickL xs l none c)) (fun b ob q => Heap.get?_push_of_some _ q) (Nat.le_refl _) ⟨lz, _, 0, vp, Heap.get?_push_size _ rfl⟩, rfl, kk.own sb' _ _ (Sub.upd hn) hn ⟨_, upd_same, reps_pickL h2 l none c⟩⟩
    | .tup ds, ra, hg =>
      obtain ⟨p, xs, rfl, h1, _, h2⟩ := ra.tup sb'
      obtain ⟨c0, ez⟩ := ifT hg
      obtain ⟨cz, ez⟩ := fits_ok ez
      cases ez
      have c0 := of_decide_eq_true c0
      cases r1
      obtain ⟨its, r, ht, hz⟩ := I5.tuple h1
      have vp := vals_pickT r l none c
      have rp := reps_pickT h2 l none c
      refine tail_any (ops := [.ref p, .ref s4.heap.objs.size]) ht.typeIs (PyProof.Rows.slot_tuple_getitem.lookup) ?_ (by with_unfolding_all rfl)
      have hn : H4 (s4.heap.push { cls := .type "slice", data := .fields #[vl, vu, vs] }).objs.size = none := I5.hok.fresh (Nat.le_refl _)
      refine tuple_step ht (Heap.IsSliceOf.new _ vl vu vs) pl pu ps c0.1 c0.2 ?_ (by simpa [← vp.length, rp.length] using cz)
      refine ⟨.ref _, _, I5.laid (t' := s4.toks) (o := .tup (pickT xs l none c)) (fun b ob q => Heap.get?_push_of_some _ q) (Nat.le_refl _) ⟨by rw [rp.length]; exact cz, _, by simpa using vp, IsTup.new _ _⟩, rfl, kk.tup sb' rp _ hn⟩
theorem de_cut00 {o1 : Opd} {a : Expr} {p2 pos : Pos} (hK : F.K = X.K) (ha : PE X a (tO F W o1)) (bo : bors F.n [o1] = true) : PE X (.Subscript a (.Slice none none none p2) pos) (tE F W (eN (gg1 gCut00) [o1])) := by
  refine (pe_slice sg_cut ha po_none po_none).imp fun σ H Q q => ?_
  refine tO_mono o1 σ H _ _ (fun x H1 q1 => ?_) (eN_run bo q)
  obtain ⟨x', e, B, d1, s, sb', r1, hg, k⟩ := rG.one q1
  cases e
  rw [hK] at r1 k
  exact ⟨B, d1, s, sb', r1, hg, k⟩
/-- an expression that gives an int -/
def eInt (f : M Sl) : M Sl := fun e => bd (f e) fun s e' => match s with
  | .sh (.int i) => .ok (.sh (.int i)) e'
  | _ => .bad
theorem eInt_of {f : M Sl} {σ : St} {H : Hp} {Q : VK} (h : tV F W (eInt f) σ H Q) : tV F W f σ H fun v H' => ∃ i, v = .int i ∧ Q v H' := by
  obtain ⟨B, e, y, n, S, o⟩ := h
  refine ⟨B, e, y, n, S, (OutR.bd o).mono fun s e' H' B' S' s' k v hv => ?_⟩
  match s, k, hv with
  | .sh (.int i), k, hv => cases hv; exact ⟨i, rfl, k H' B' S' (.refl _) _ (.int i)⟩
theorem eInt_ok {f : M Sl} {ex : Expr} (h : PE X ex (tE F W f)) : PE X ex (tE F W (eInt f)) := h.imp fun σ H Q ⟨B, e, y, n, S, o⟩ => ⟨B, e, y, n, S, (OutR.bd o).mono fun s e' H' B' S' s' k v hv => by
  match s, k, hv with
  | .sh (.int i), k, hv => cases hv; exact k H' B' S' (.refl _) _ (.int i)⟩
theorem eInt_st {f : M Sl} {σ : St} {H : Hp} {Q : VK} (h : tV F W (eInt f) σ H Q) : tV F W (eInt f) σ H fun v H' => ∃ i, v = .int i ∧ Q v H' := by
  obtain ⟨B, e, y, n, S, o⟩ := h
  refine ⟨B, e, y, n, S, ?_⟩
  cases hr : eInt f e with
  | bad => rw [hr] at o; exact o
  | exn x e' => rw [hr] at o; exact o
  | ok s e' =>
    rw [hr] at o
    intro H' B' S' s' v hv
    have : ∃ i, s = .sh (.int i) := by
      unfold eInt at hr
      cases hf : f e with
      | bad => rw [hf] at hr; cases hr
      | exn x e' => rw [hf] at hr; cases hr
      | ok s1 e1 =>
        rw [hf] at hr
        match s1, hr with
        | .sh (.int i), hr => cases hr; exact ⟨i, rfl⟩
    obtain ⟨i, rfl⟩ := this
    have hv : Rep F.K B' v (.int i) := hv
    cases hv
    exact ⟨i, rfl, o H' B' S' s' _ (.int i)⟩
theorem de_cut11 {o1 : Opd} {f2 f3 : M Sl} {a b c : Expr} {p2 pos : Pos} (hK : F.K = X.K) (ha : PE X a (tO F W o1)) (hb : PE X b (tV F W (eInt f2))) (hc : PE X c (tV F W (eInt f3))) (bo : bors F.n [o1] = true) : PE X (.Subscript a (.Slice (some b) (some c) none p2) pos) (tE F W (eN (gg3 gCut11) [o1, .val (eInt f2), .val (eInt f3)])) := by
  refine (pe_slice sg_cut ha (po_some hb) (po_some hc)).imp fun σ H Q q => ?_
  have z := eN_run (os := [o1, .val (eInt f2), .val (eInt f3)]) (by cases o1 <;> simpa [bors] using bo) q
  refine tO_mono o1 σ H _ _ (fun x H1 q1 => ?_) z
  refine tO_mono (.val (eInt f2)) σ H1 _ _ (fun y H2 q2 => ?_) (eInt_st q1)
  obtain ⟨i, rfl, q2⟩ := q2
  refine ⟨i, rfl, ?_⟩
  refine tO_mono (.val (eInt f3)) σ H2 _ _ (fun y H3 q3 => ?_) (eInt_st q2)
  obtain ⟨j, rfl, q3⟩ := q3
  obtain ⟨_, _, _, e, B, d1, d2, d3, s, sb', r1, r2, r3, hg, k⟩ := rG.three q3
  cases e
  rw [hK] at r1 k
  match d2, d3, r2, r3, hg with
  | .int i', .int j', r2, r3, hg => cases r2.int; cases r3.int; exact ⟨j, rfl, B, d1, s, sb', r1, hg, k⟩
theorem de_step01 {o1 : Opd} {f2 : M Sl} {a b : Expr} {p2 pos : Pos} (hK : F.K = X.K) (ha : PE X a (tO F W o1)) (hb : PE X b (tV F W (eInt f2))) (bo : bors F.n [o1] = true) : PE X (.Subscript a (.Slice none none (some b) p2) pos) (tE F W (eN (gg2 gStep01) [o1, .val (eInt f2)])) := by
  refine (pe_sliceS ha po_none hb).imp fun σ H Q q => ?_
  have z := eN_run (os := [o1, .val (eInt f2)]) (by cases o1 <;> simpa [bors] using bo) q
  refine tO_mono o1 σ H _ _ (fun x H1 q1 => ?_) z
  refine tO_mono (.val (eInt f2)) σ H1 _ _ (fun y H2 q2 => ?_) (eInt_st q1)
  obtain ⟨i, rfl, q2⟩ := q2
  obtain ⟨_, _, e, B, d1, d2, s, sb', r1, r2, hg, k⟩ := rG.two q2
  cases e
  rw [hK] at r1 k
  match d2, r2, hg with
  | .int i', r2, hg => cases r2.int; exact ⟨i, rfl, B, d1, s, sb', r1, hg, k⟩
theorem de_step11 {o1 : Opd} {f2 f3 : M Sl} {a b c : Expr} {p2 pos : Pos} (hK : F.K = X.K) (ha : PE X a (tO F W o1)) (hb : PE X b (tV F W (eInt f2))) (hc : PE X c (tV F W (eInt f3))) (bo : bors F.n [o1] = true) : PE X (.Subscript a (.Slice (some b) none (some c) p2) pos) (tE F W (eN (gg3 gStep11) [o1, .val (eInt f2), .val (eInt f3)])) := by
  refine (pe_sliceS ha (po_some hb) hc).imp fun σ H Q q => ?_
  have z := eN_run (os := [o1, .val (eInt f2), .val (eInt f3)]) (by cases o1 <;> simpa [bors] using bo) q
  refine tO_mono o1 σ H _ _ (fun x H1 q1 => ?_) z
  refine tO_mono (.val (eInt f2)) σ H1 _ _ (fun y H2 q2 => ?_) (eInt_st q1)
  obtain ⟨i, rfl, q2⟩ := q2
  refine ⟨i, rfl, ?_⟩
  refine tO_mono (.val (eInt f3)) σ H2 _ _ (fun y H3 q3 => ?_) (eInt_st q2)
  obtain ⟨j, rfl, q3⟩ := q3
  obtain ⟨_, _, _, e, B, d1, d2, d3, s, sb', r1, r2, r3, hg, k⟩ := rG.three q3
  cases e
  rw [hK] at r1 k
  match d2, d3, r2, r3, hg with
  | .int i', .int j', r2, r3, hg => cases r2.int; cases r3.int; exact ⟨j, rfl, B, d1, s, sb', r1, hg, k⟩
end
end DL

end
section
set_option maxRecDepth 100000
set_option maxHeartbeats 2000000
/-! DB9: f(e), where f may change its parameter and e is a new list. -/
namespace DL
open PySem PySem.Spec PyProof.Rows L2

def eCall1t (m : List D → RF) (g : M Sl) : M Sl := fun e => bd (g e) fun s e1 => match s with
  | .ow d => (match m [d] with
    | .ok r _ => okS r e1
    | _ => .bad)
  | _ => .bad
section
variable {X : Cx} {F : Fr} {W : WX}
theorem set_last {α : Type} {l : List α} {a b : α} : (l ++ [a]).set l.length b = l ++ [b] := by
  rw [List.set_append_right _ _ (Nat.le_refl _)]
  simp
theorem eCall1t_run {m : List D → RF} {g : M Sl} {σ : St} {H : Hp} {Q : VK} (h : tE F W (eCall1t m g) σ H Q) : tE F W g σ H (fun v H1 => spM F.K F.mg 1 (some 0) m [v] H1 Q (WE W σ)) := by
  obtain ⟨B, e, y, n, S, o⟩ := h
  refine ⟨B, e, y, n, S, (OutR.bd o).mono fun s e1 H1 B1 S1 b1 k v hv => ?_⟩
  match s, k, hv with
  | .ow d, k, hv =>
    obtain ⟨p, rfl, fr⟩ := hv
    have hv : SlV F (σ ++ y) e1 H1 B1 (.ow d) (.ref p) := ⟨p, rfl, fr⟩
    refine ⟨rfl, B1, [d], S1.sub, ⟨rfl, fun i v d' ne h1 h2 => ?_, fun i d' em h2 => ?_, fun i em => ?_⟩, ?_⟩
    · match i, h1 with
      | 0, _ => exact absurd rfl ne
      | i + 1, h1 => simp at h1
    · cases em
      cases h2
      exact ⟨p, rfl, fr.nB, fr.own⟩
    · cases em; simp
    · have k : OutR F W σ (σ ++ y) B1 (match m [d] with | .ok r _ => okS r e1 | _ => .bad) (fun s e' H' B' => ∀ v, SlV F (σ ++ y) e' H' B' s v → Q v H') := k
      cases hm : m [d] with
      | bad => rw [hm] at k; exact k.elim
      | exn x => rw [hm] at k; exact k.elim
      | ok r out =>
        rw [hm] at k
        intro H' B' v rr
        have P := S1.push hv
        have gl : (σ ++ y ++ [some (V.ref p)])[e1.length]? = some (some (.ref p)) := by rw [← S1.len]; exact app_last
        have mp : ∀ a, Mp (some 0) [V.ref p] a → a = p := fun a ⟨i, hi, ha⟩ => by cases hi; cases ha; rfl
        have C := P.call (i := e1.length) (s := .ow d) (p := p) (d' := out) app_last rfl gl rr.sb rr.sb' rr.nw (fun a o q ne => rr.kp a o q fun w => ne (mp a w)) (rr.mu p ⟨0, rfl, rfl⟩)
        rw [set_last] at C
        have S2 := (SR.pop (s := .ow out) C rfl).1
        cases r with
        | sh d' => exact k H' B' S2 rr.sb v rr.rs
        | ow d' =>
          obtain ⟨q, rfl, h1, h2, h3⟩ := rr.rs
          refine k H' B' S2 rr.sb (.ref q) ⟨q, rfl, h2, S1.new0 h1, h3, fun j s z o' w => ?_⟩
          obtain ⟨p', z1, _, z3⟩ := (S1.sl j s z).own o'
          rw [w] at z1; cases z1
          exact z3.ne h1
        | mu d' => exact rr.rs.elim
  | .sh d, k, hv => exact k.elim
  | .mu d, k, hv => exact hv.elim
theorem de_call1t {k : Nat} {f : Addr} {m : List D → RF} {x : Str} {a : Expr} {g : M Sl} {p pos : Pos} (hK : F.K = X.K) (hM : F.mg = X.mg) (G : FnG X.prog X.w X.K X.mg X.base k f 1 (spM X.K X.mg 1 (some 0) m)) (hr : Room k X.A) (hgd : X.A.guards = some []) (tk : Takes X W) (hg : Gl X x) (hm : X.mg x = some (.ref f))
    (hk : PySem.W.keepIn X.K (.ref f) = true) (hdb : (x == ("__debug__" : Str)) = false) (ha : PE X a (tE F W g)) (na : plainE a = true) : PE X (.Call (.Name x p) [a] [] pos) (tE F W (eCall1t m g)) := by
  refine (pe_callG G hr hgd tk hg hm hk (pa_cons ha pa_nil (star_one na)) hdb (star_one na) (star_any rfl)).imp fun σ H Q q => ?_
  have z := eCall1t_run q
  rw [hK, hM] at z
  exact z

/-! ### tuple(range(..)), list(range(..)) -/
def rgOkB (a b : Int) : Bool := rngOk a && rngOk b && decide ((b - a).toNat ≤ 2 ^ 24)
def gRgT : List D → Option Sl
  | [.int j] => if rgOkB 0 j then st (rngD 0 (j - 0).toNat 1) else none
  | [.int i, .int j] => if rgOkB i j then st (rngD i (j - i).toNat 1) else none
  | _ => none
def gRgL : List D → Option Sl
  | [.int j] => if rgOkB 0 j then sl (rngD 0 (j - 0).toNat 1) else none
  | [.int i, .int j] => if rgOkB i j then sl (rngD i (j - i).toNat 1) else none
  | _ => none
theorem rgOk_ok {a b : Int} (h : rgOkB a b = true) : RgOk a b := by
  unfold rgOkB at h
  simp only [Bool.and_eq_true, decide_eq_true_eq] at h
  exact ⟨(rng_ok h.1.1).1, (rng_ok h.1.1).2, (rng_ok h.1.2).1, (rng_ok h.1.2).2, h.2⟩
theorem reps_rg {K : PySem.W.Frag} {B : Hp} (a b : Int) : Reps K B (rgV a b) (rngD a (b - a).toNat 1) := by
  unfold rgV rngD
  have h : ∀ l : List Nat, Reps K B (l.map fun i => V.int (a + (i : Nat))) (l.map fun i => D.int (a + (i : Nat) * 1)) := by
    intro l
    induction l with
    | nil => exact .nil
    | cons i l ih => exact .cons (by show Rep K B (V.int (a + (i : Nat))) (D.int (a + (i : Nat) * 1)); rw [Int.mul_one]; exact .int _) ih
  exact h _
theorem rg1_run {T : Bool} {o1 : Opd} {σ : St} {H : Hp} {Q : VK} (hb : bors F.n [o1] = true) (q : tE F W (eN (if T then gRgT else gRgL) [o1]) σ H Q) : tRg1 (tO F W o1) σ H (fun a b H1 => RgOk a b ∧ ∀ q, H1 q = none → Q (.ref q) (upd H1 q (if T then .tup (rgV a b) else .lst (rgV a b)))) := by
  refine tO_mono o1 σ H _ _ (fun x H1 q1 => ?_) (eN_run hb q)
  obtain ⟨B, ds, s, sb', r, hg, k⟩ := q1
  match ds, r, hg with
  | [d], .cons r1 .nil, hg =>
    cases d with
    | int j =>
      have hx := r1.int
      subst hx
      cases T with
      | true =>
        obtain ⟨c, e⟩ := ifT (show (if rgOkB 0 j then st (rngD 0 (j - 0).toNat 1) else none) = some s from hg)
        cases e
        exact ⟨j, rfl, rgOk_ok c, fun q hq => k.tup sb' (reps_rg 0 j) q hq⟩
      | false =>
        obtain ⟨c, e⟩ := ifT (show (if rgOkB 0 j then sl (rngD 0 (j - 0).toNat 1) else none) = some s from hg)
        cases e
        exact ⟨j, rfl, rgOk_ok c, fun q hq => k.lst sb' (reps_rg 0 j) q hq⟩
    | _ => cases T <;> cases hg
theorem rg2_run {T : Bool} {o1 o2 : Opd} {σ : St} {H : Hp} {Q : VK} (hb : bors F.n [o1, o2] = true) (q : tE F W (eN (if T then gRgT else gRgL) [o1, o2]) σ H Q) : tRg2 (tO F W o1) (tO F W o2) σ H (fun a b H1 => RgOk a b ∧ ∀ q, H1 q = none → Q (.ref q) (upd H1 q (if T then .tup (rgV a b) else .lst (rgV a b)))) := by
  refine tO_mono o1 σ H _ _ (fun x H1 q1 => tO_mono o2 σ H1 _ _ (fun y H2 q2 => ?_) q1) (eN_run hb q)
  obtain ⟨B, ds, s, sb', r, hg, k⟩ := q2
  match ds, r, hg with
  | [d, d'], .cons r1 (.cons r2 .nil), hg =>
    have ij : ∃ i j, d = .int i ∧ d' = .int j := by
      cases T <;> cases d <;> first | cases hg | (cases d' <;> first | exact ⟨_, _, rfl, rfl⟩ | cases hg)
    obtain ⟨i, j, rfl, rfl⟩ := ij
    have hx := r1.int
    have hy := r2.int
    subst hx hy
    cases T with
    | true =>
      obtain ⟨c, e⟩ := ifT (show (if rgOkB i j then st (rngD i (j - i).toNat 1) else none) = some s from hg)
      cases e
      exact ⟨i, j, rfl, rfl, rgOk_ok c, fun q hq => k.tup sb' (reps_rg i j) q hq⟩
    | false =>
      obtain ⟨c, e⟩ := ifT (show (if rgOkB i j then sl (rngD i (j - i).toNat 1) else none) = some s from hg)
      cases e
      exact ⟨i, j, rfl, rfl, rgOk_ok c, fun q hq => k.lst sb' (reps_rg i j) q hq⟩
end
end DL

end
section
set_option maxRecDepth 100000
set_option maxHeartbeats 2000000
/-! DK2: new dicts. -/
namespace DL
open PySem PySem.Spec PyProof.Rows L2

section
variable {prog : Program} {w : World} {K : Type} [DecidableEq K] {knd : HeapKind prog w K} {A : Around} {E : Value → Shared → Prop} {s : Shared}
theorem dict_pairsA {env : Env} {keys : List (Option Expr)} {values : List Expr} {pos : Pos} {pairs : List (Sem Value × Sem Value)} {Q : Value → Shared → Prop} (hu : knd.room A)
    (hshape : (evalEachOpt keys env).zip ((evalEach values env).map fun v => do let x ← v; standAt pos; pure x) = pairs.map fun p => (some p.1, p.2)) (h0 : pairs ≠ []) (hlen : pairs.length ≤ 15)
    (h : wpAny (model prog w) A (evalPairs pairs) (fun vs s₁ => ∃ ps, CarriesH knd s₁.heap vs ps ∧ s₁.heap.DictOfH knd s.heap.objs.size [] ∧
      ∀ h' tk, h'.DictOfH knd s.heap.objs.size (storedAllH [] ps) → Heap.SameBut s.heap.objs.size s₁.heap h' → Q (.ref s.heap.objs.size) { s₁ with heap := h', toks := tk }) E
      { s with heap := s.heap.push { cls := .type "dict", data := .dict #[] } }) :
    wpAny (model prog w) A (eval (.Dict keys values pos) env) Q E s := by
  rw [arm_eval_Dict, hshape, dictDisplay_pairs pairs h0 (by omega)]
  exact wpAny_bind (wpAny_standAt (wpAny_bind (wpAny_subDictH (knd := knd) (Q := fun d s' => wpAny (model prog w) A (pure (Value.ref d)) Q E s') hu hlen
    (wpAny_mono h (fun vs s₁ h₁ => by obtain ⟨ps, hc, hm, hq⟩ := h₁; exact ⟨ps, hc, hm, fun h' tk a b => wpAny_pure (hq h' tk a b)⟩) fun _ _ e => e))))
end
/-- {k: v}, k a tuple -/
def tDisp1 (tk tv : TE) : TE := fun σ H Q => ∀ p, H p = none → tk σ (upd H p (.dT [])) fun x H1 => tv σ H1 fun y H2 => H2 p = some (.dT []) ∧ ∃ (k : List Key) (b : Addr), x = .ref b ∧ H2 b = some (.tup (k.map kV)) ∧ Q (.ref p) (upd H2 p (.dT [(k, y)]))
theorem pe_disp1 {X : Cx} {pos : Pos} {k v : Expr} {tk tv : TE} (hu : X.A.units + 2 < cLine) (hk : PE X k tk) (hv : PE X v tv) : PE X (.Dict [some k] [v] pos) (tDisp1 tk tv) := by
  refine ⟨fun pins s σ H Q I q => ?_⟩
  have hn := I.hok.fresh (Nat.le_refl s.heap.objs.size)
  have I1 := I.laid (a := s.heap.objs.size) (o := .dT []) (h' := s.heap.push { cls := .type "dict", data := .dict #[] }) (t' := s.toks) (fun _ _ q => Heap.get?_push_of_some _ q) (Nat.le_refl _) (dt_empty s.heap I.big)
  refine dict_pairsA (knd := tupleKind (mixKind X.prog X.w)) (show X.A.units < cLine by omega) (zip_pairTrees [some k] [v] X.env pos rfl rfl) (by simp [pairTrees]) (by simp [pairTrees]) ?_
  refine pairTrees_cons_walk (thn (hk.run pins _ σ _ _ I1 (q _ hn)) fun u s1 ⟨x, H1, I2, rx, q1⟩ => thn (hv.run pins s1 σ H1 _ I2 q1) fun w2 s2 ⟨y, H2, I3, ry, e, kk, b, ex, eb, q2⟩ => pairTrees_nil_walk ?_)
  subst ex
  cases (show u = Value.ref b from rx)
  obtain ⟨z, hd, xs, rel, dd⟩ := dt_of I3.hok e
  cases rel
  refine ⟨[(kk, b, w2)], ⟨rfl, rfl, key_of I3.hok eb, trivial⟩, dd, fun h' tk dd' hs => ⟨.ref s.heap.objs.size, _, ?_, rfl, q2⟩⟩
  obtain ⟨qo, es, ep, hq, h2, h3, h4, _, h5⟩ := dd'
  refine d_write (h' := h') (t' := tk) I3 (by rw [e]; exact True.intro) hs ⟨qo, hq⟩ ⟨by rw [sizeLine_eq]; simp, hd, [(kk, b, w2)], .cons ⟨rfl, ?_, ry⟩ .nil, qo, es, ep, hq, h2, h3, h4, h5⟩
  show upd H2 s.heap.objs.size _ b = _
  rw [upd_ne (ne_of eb e (fun z => nomatch z))]
  exact eb
/-- a new dict without keys -/
def eOwn (d : D) : M Sl := fun e => .ok (.ow d) e
/-- {k: v} -/
def gDisp1 (v : D) (k : D) : Option Sl := match k with
  | .tup xs => (keysD xs).map fun k => .ow (.dt [k] [v])
  | _ => none
section
variable {X : Cx} {F : Fr} {W : WX}
theorem de_newK {pos : Pos} : PE X (.Dict [] [] pos) (tE F W (eOwn (.dk [] []))) := pe_dnewK.imp fun σ H Q ⟨B, e, y, hl, S, o⟩ p hp =>
  o _ B (S.al ⟨Sub.upd hp, .refl _, S.sub.trans (Sub.upd hp), fun _ _ => rfl⟩) (.refl _) (.ref p) ⟨p, rfl, S.sub.none hp, S.new0 hp, ⟨[], upd_same, rfl, .nil⟩, fun j s z o' w => by
    obtain ⟨p', z1, _, z3⟩ := (S.sl j s z).own o'
    rw [w] at z1; cases z1
    exact z3.ne hp⟩
theorem de_newT {pos : Pos} : PE X (.Dict [] [] pos) (tE F W (eOwn (.dt [] []))) := pe_dnewT.imp fun σ H Q ⟨B, e, y, hl, S, o⟩ p hp =>
  o _ B (S.al ⟨Sub.upd hp, .refl _, S.sub.trans (Sub.upd hp), fun _ _ => rfl⟩) (.refl _) (.ref p) ⟨p, rfl, S.sub.none hp, S.new0 hp, ⟨[], upd_same, rfl, .nil⟩, fun j s z o' w => by
    obtain ⟨p', z1, _, z3⟩ := (S.sl j s z).own o'
    rw [w] at z1; cases z1
    exact z3.ne hp⟩
theorem de_disp1 {i : Nat} {x : Str} {b : Bool} {j : Nat} {pos p1 p2 : Pos} (hK : F.K = X.K) (hu : X.A.units + 2 < cLine) (hv : PE X (.Name x p1) (tVar i)) (hi : i < F.n) : PE X (.Dict [some (.Name x p1)] [.Constant (.bool b) j p2] pos) (tE F W (eN (gg1 (gDisp1 (.bl b))) [.bor i])) := by
  refine (pe_disp1 hu hv pe_bl).imp fun σ H Q h p hp => ?_
  obtain ⟨v, z, q⟩ := eN_run (by simp [bors, hi]) h
  obtain ⟨x', e, B, a, s, sb, ra, hg, k⟩ := rG.one q
  cases e
  refine ⟨v, z, ?_⟩
  match a, ra, hg with
  | .tup xs, ra, hg =>
    obtain ⟨ks, h1, rfl⟩ := Option.map_eq_some_iff.mp hg
    obtain ⟨q', ys, rfl, f1, f2, f3⟩ := ra.tup sb
    refine ⟨upd_same, ks, q', rfl, ?_, ?_⟩
    · have f4 : H q' = some (.tup ys) := sb _ _ f2
      rw [upd_ne (ne_of_none f4 hp), f4, kVs_keysD f3 h1]
    · have e2 : L2.upd (L2.upd H p (.dT [])) p (.dT [(ks, V.bl b)]) = L2.upd H p (.dT [(ks, V.bl b)]) := by
        funext c
        by_cases q : c = p
        · subst q; rw [upd_same, upd_same]
        · rw [upd_ne q, upd_ne q, upd_ne q]
      rw [e2]
      exact k.own sb p _ (Sub.upd hp) hp ⟨[(ks, V.bl b)], upd_same, rfl, .cons (.bl b) .nil⟩
end
/-- d.update(e), both with tuple keys, d not empty -/
def updG {κ α : Type} [DecidableEq κ] (ps qs : List (κ × α)) : List (κ × α) := qs.foldl (fun acc p => putG acc p.1 p.2) ps
def gUpd : D → List D → Option (D × D)
  | .dt ks vs, [.dt ls ws] => if (ks.zip vs).length + (ls.zip ws).length ≤ sizeLine ∧ ks.zip vs ≠ [] then some (.dt ((updG (ks.zip vs) (ls.zip ws)).map (·.1)) ((updG (ks.zip vs) (ls.zip ws)).map (·.2)), .non) else none
  | _, _ => none
section
variable {κ : Type} [DecidableEq κ] {K : PySem.W.Frag} {B : Hp}
def updV (xs ys : List (κ × V)) : List (κ × V) := ys.foldl (fun acc p => putK acc p.1 p.2) xs
theorem Prs.upd : ∀ {ys : List (κ × V)} {qs : List (κ × D)}, Prs K B ys qs → ∀ {xs : List (κ × V)} {ps : List (κ × D)}, Prs K B xs ps → Prs K B (updV xs ys) (updG ps qs)
  | _, _, .nil, _, _, r => r
  | _, _, .cons (k := k) a t, _, _, r => Prs.upd t (r.put k a)
theorem updV_len : ∀ (ys xs : List (κ × V)), (updV xs ys).length ≤ xs.length + ys.length
  | [], xs => by show xs.length ≤ xs.length + 0; omega
  | p :: ys, xs => by
    have h1 := updV_len ys (putK xs p.1 p.2)
    have h2 := putK_len xs p.1 p.2
    show (updV (putK xs p.1 p.2) ys).length ≤ _
    rw [List.length_cons]; omega
theorem KT.upd {H : Hp} : ∀ {ys : List (List Key × V)} {ms : List (List Key × Addr × Value)}, KT H ys ms → ∀ {xs : List (List Key × V)} {ls : List (List Key × Addr × Value)}, KT H xs ls → KT H (updV xs ys) (storedAllH ls ms) := by
  intro ys ms h
  induction h with
  | nil => intro xs ls r; exact r
  | @cons p q ps qs hq t ih =>
    intro xs ls r
    refine ih ?_
    have := r.put p.1 (b := q.2.1) hq.2.1 hq.2.2
    show KT H (putK xs p.1 p.2) (storedH ls q.1 q.2.1 q.2.2)
    rw [← hq.1]
    exact this
end
section
variable {X : Cx}
theorem ty_update : typeOf (.builtin "dict.update") = pure (.type "method_descriptor") := by show builtinType _ = _; rw [builtinType_eq_fast]; kernel_rfl
theorem mg_upd (hu : X.A.units + 2 < cLine) : MtR X "dict.update" (rMu X.K gUpd) := by
  intro pins s σ H x vs v us Q I rx rv ⟨B, p, d, ds, d', r, ex, nB, sb, ow, rp, hg, k⟩
  subst ex
  match d, ds, ow, rp, hg with
  | .dt ks ws, [.dt ls us'], ⟨xs, e1, e2, e3⟩, .cons ra .nil, hg =>
    have hg : (if (ks.zip ws).length + (ls.zip us').length ≤ sizeLine ∧ ks.zip ws ≠ [] then some (D.dt ((updG (ks.zip ws) (ls.zip us')).map (·.1)) ((updG (ks.zip ws) (ls.zip us')).map (·.2)), D.non) else none) = some (d', r) := hg
    split at hg
    · rename_i c
      cases hg
      cases ra with
      | @dt q od ys _ _ f1 f2 f3 =>
        cases (show v = Value.ref p from rx)
        cases Vals.ref1 rv
        have P := Prs.of e2 e3
        have R := Prs.of f2 f3
        obtain ⟨z, hd, ns, rel, dd⟩ := dt_of I.hok e1
        obtain ⟨z2, hd2, ms, rel2, dd2⟩ := dt_rd I.hok (.inr ⟨od, sb _ _ f1⟩)
        have ne : p ≠ q := fun z => by subst z; rw [nB] at f1; cases f1
        have l1 : xs.length = ns.length := Paired.length rel
        have l2 : ys.length = ms.length := Paired.length rel2
        have n0 : ns ≠ [] := fun z => c.2 (List.length_eq_zero_iff.mp (by rw [← P.length, l1, z]; rfl))
        refine PySem.call_update_dictH (knd := tupleKind (mixKind X.prog X.w)) (show X.A.units + 1 < cLine by omega) ne hd2 dd dd2 (.inl n0) (by rw [← l1, ← l2, P.length, R.length]; exact c.1) fun h' dd' _ hs => ?_
        have U := R.upd P
        have hl : (updV xs ys).length ≤ sizeLine := Nat.le_trans (updV_len ys xs) (by rw [P.length, R.length]; exact c.1)
        obtain ⟨qo, es, ep, hq, h2, h3, h4, _, h5⟩ := dd'
        refine ⟨.non, upd H p (.dT (updV xs ys)), d_write (h' := h') (t' := s.toks) I (by rw [e1]; exact True.intro) hs ⟨qo, hq⟩ ⟨hl, hd, _, (KT.upd rel2 rel).keeps fun c ys' ec => ?_, qo, es, ep, hq, h2, h3, h4, h5⟩, rfl, rMu.upd nB sb k ⟨_, upd_same, U.keys, U.vals⟩ .non⟩
        rw [upd_ne (ne_of ec e1 (fun z => nomatch z))]
        exact ec
    · cases hg
end
/-! dict(x) -/
def pairsD : List D → Option (List (D × D))
  | [] => some []
  | .tup [k, v] :: ds => (pairsD ds).map ((k, v) :: ·)
  | _ => none
def pksK : List (D × D) → Option (List (Key × D))
  | [] => some []
  | (k, v) :: ps => (match keyD k, pksK ps with
    | some k, some qs => some ((k, v) :: qs)
    | _, _ => none)
def pksT : List (D × D) → Option (List (List Key × D))
  | [] => some []
  | (.tup xs, v) :: ps => (match keysD xs, pksT ps with
    | some k, some qs => some ((k, v) :: qs)
    | _, _ => none)
  | _ => none
def gDict : D → Option Sl
  | .dk ks vs => some (.ow (.dk ks vs))
  | .lst ds => (match pairsD ds with
    | some ps => (match pksK ps with
      | some qs => some (.ow (.dk ((updG [] qs).map (·.1)) ((updG [] qs).map (·.2))))
      | none => (match pksT ps with
        | some qs => some (.ow (.dt ((updG [] qs).map (·.1)) ((updG [] qs).map (·.2))))
        | none => none))
    | none => none)
  | _ => none
section
variable {X : Cx} {K : PySem.W.Frag} {B H : Hp}
theorem merge_eq (xs ys : List (Key × V)) : mergeK xs ys = updV xs ys := rfl
theorem pairsK_ok (s : Sub B H) : ∀ {vs : List V} {ds : List D} {ps : List (D × D)} {qs : List (Key × D)}, Reps K B vs ds → pairsD ds = some ps → pksK ps = some qs → ∃ (as : List Addr) (kvs : List (Key × V)), vs = as.map V.ref ∧ Paired (fun p kv => SqT K H p [kV kv.1, kv.2]) as kvs ∧ Prs K B kvs qs
  | _, _, _, _, .nil, h1, h2 => by cases h1; cases h2; exact ⟨[], [], rfl, .nil, .nil⟩
  | _, _, _, _, .cons (d := d) (ds := ds) a r, h1, h2 => by
    match d, a, h1 with
    | .tup [k, v], .tup q (.cons r1 (.cons r2 .nil)), h1 =>
      obtain ⟨ps, g1, rfl⟩ := Option.map_eq_some_iff.mp (show (pairsD ds).map ((k, v) :: ·) = _ from h1)
      rw [pksK] at h2
      split at h2
      · rename_i kk qs e1 e2
        cases h2
        obtain ⟨as, kvs, rfl, h3, h4⟩ := pairsK_ok s r g1 e2
        refine ⟨_ :: as, (kk, _) :: kvs, rfl, .cons (.inl (.inl ?_)) h3, .cons r2 h4⟩
        rw [← kV_keyD r1 e1]
        exact s _ _ q
      · cases h2
/-- what stands there for a pair with a tuple key -/
structure PkAt (H : Hp) (h : Heap) (z : Addr × List Key × Addr × V × Value) : Prop where
  key : H z.2.2.1 = some (.tup (z.2.1.map kV))
  rel : RelV z.2.2.2.1 z.2.2.2.2
  tup : h.IsTuple z.1 #[.ref z.2.2.1, z.2.2.2.2]
theorem pairsT_ok {pins : List (Addr × Obj)} {σ : St} {sh : Shared} (I : Inv X pins σ H sh) (s : Sub B H) : ∀ {vs : List V} {ds : List D} {ps : List (D × D)} {qs : List (List Key × D)}, Reps X.K B vs ds → pairsD ds = some ps → pksT ps = some qs →
    ∃ zs : List (Addr × List Key × Addr × V × Value), vs = zs.map (fun z => V.ref z.1) ∧ (∀ z ∈ zs, PkAt H sh.heap z) ∧ Prs X.K B (zs.map fun z => (z.2.1, z.2.2.2.1)) qs
  | _, _, _, _, .nil, h1, h2 => by cases h1; cases h2; exact ⟨[], rfl, (fun z h => by cases h), .nil⟩
  | _, _, _, _, .cons (d := d) (ds := ds) a r, h1, h2 => by
    match d, h1 with
    | .tup [k, v], h1 =>
      obtain ⟨ps, g1, rfl⟩ := Option.map_eq_some_iff.mp (show (pairsD ds).map ((k, v) :: ·) = _ from h1)
      cases a with | tup q rr =>
      cases rr with | cons r1 rr =>
      cases rr with | @cons y _ _ _ r2 rr =>
      cases rr
      match k, h2 with
      | .tup xs, h2 =>
        cases r1 with | @tup b _ _ q1 q2 =>
        rw [pksT] at h2
        split at h2
        · rename_i kk qs e1 e2
          cases h2
          obtain ⟨zs, rfl, h3, h4⟩ := pairsT_ok I s r g1 e2
          obtain ⟨its, rv, ht, _⟩ := I.tuple (.inl (.inl (s _ _ q)))
          obtain ⟨u, w, ei, ru, ry⟩ := vals2 rv
          subst ei
          cases (show u = Value.ref b from ru)
          refine ⟨(_, kk, b, y, w) :: zs, rfl, fun z hz => ?_, .cons r2 h4⟩
          rcases List.mem_cons.mp hz with rfl | hz
          · exact ⟨by rw [← kVs_keysD q2 e1]; exact s _ _ q1, ry, ht⟩
          · exact h3 z hz
        · cases h2
theorem KT_of {h : Heap} : ∀ {zs : List (Addr × List Key × Addr × V × Value)}, (∀ z ∈ zs, PkAt H h z) → KT H (zs.map fun z => (z.2.1, z.2.2.2.1)) (zs.map fun z => (z.2.1, z.2.2.1, z.2.2.2.2))
  | [], _ => .nil
  | z :: zs, hz => .cons ⟨rfl, (hz z List.mem_cons_self).key, (hz z List.mem_cons_self).rel⟩ (KT_of fun y hy => hz y (List.mem_cons_of_mem _ hy))
theorem dict_T (hc : X.calm = true) (hu : X.A.units + 3 < cLine) {pins : List (Addr × Obj)} {σ : St} {s : Shared} (I : Inv X pins σ H s) {a : Addr} {zs : List (Addr × List Key × Addr × V × Value)} (hq : SqL X.K H a (zs.map fun z => V.ref z.1)) (hz : ∀ z ∈ zs, PkAt H s.heap z) {Q : VK}
    (q : ∀ p, H p = none → Q (.ref p) (upd H p (.dT (updV [] (zs.map fun z => (z.2.1, z.2.2.2.1)))))) : wpAny (model X.prog X.w) X.A (call (.type "dict") [.ref a]) (EP X pins σ Q) X.xe s := by
  obtain ⟨its, rv, pl, hzl⟩ := I.list hq
  have ei : its = zs.map fun z => Value.ref z.1 := by
    have := refs_at (ps := zs.map (·.1)) (by rw [List.map_map]; exact rv)
    rw [this, List.map_map]; rfl
  subst ei
  rw [List.length_map] at hzl
  obtain ⟨o, n, ho, hcl, hd, hdat⟩ := pl
  have at' : ∀ {j : Nat} {k v : Value}, (zs.map fun z => (Value.ref z.2.2.1, z.2.2.2.2))[j]? = some (k, v) → ∃ z, zs[j]? = some z ∧ k = .ref z.2.2.1 ∧ v = z.2.2.2.2 ∧ z ∈ zs := fun {j k v} e => by
    rw [List.getElem?_map] at e
    obtain ⟨z, e1, e2⟩ := Option.map_eq_some_iff.mp e
    cases e2
    exact ⟨z, e1, rfl, rfl, List.mem_of_getElem? e1⟩
  refine PySem.call_dict_pairsH (knd := tupleKind (mixKind X.prog X.w)) (ps := zs.map fun z => (z.2.1, z.2.2.1, z.2.2.2.2)) (PairArg.list a (zs.map fun z => Value.ref z.1).toArray (fun j => (zs[j]?.map (·.1)).getD 0) (zs.map fun z => (Value.ref z.2.2.1, z.2.2.2.2))) (I.ok.hd hc) (show X.A.units + 2 < cLine by omega)
    ⟨⟨o, n, ho, hcl, hd, hdat⟩, by simp, fun j k v e => ?_⟩ ⟨by simp, fun i key v e => ?_⟩ (fun h' hk x hx => ?_) (by simpa using hzl) fun h' tk dd' k => ?_
  · obtain ⟨z, e1, rfl, rfl, hm⟩ := at' e
    exact ⟨by simp [e1], .inl (by simp [e1]; exact (hz z hm).tup)⟩
  · obtain ⟨z, e1, rfl, rfl, hm⟩ := at' e
    exact ⟨z.2.1, z.2.2.1, by simp [e1], rfl⟩
  · obtain ⟨z, hm, rfl⟩ := List.mem_map.mp hx
    obtain ⟨ob, its, m, h1, h2, h3, h4⟩ := key_of I.hok (hz z hm).key
    exact ⟨ob, its, m, hk _ _ (Nat.ne_of_lt (Heap.lt_size h1)) (by simp) h1, h2, h3, h4⟩
  · have hm : (s.heap.objs.size == sysModules) = false := beq_eq_false_iff_ne.mpr (Nat.ne_of_gt I.big)
    have hf := I.hok.fresh (Nat.le_refl s.heap.objs.size)
    have hl : (updV [] (zs.map fun z => (z.2.1, z.2.2.2.1))).length ≤ sizeLine := Nat.le_trans (updV_len _ []) (by simpa using hzl)
    obtain ⟨qo, es, ep, hq', h2, h3, h4, _, h5⟩ := dd'
    refine ⟨.ref s.heap.objs.size, _, I.laid (t' := tk) (o := .dT (updV [] (zs.map fun z => (z.2.1, z.2.2.2.1)))) (fun b ob e => k b ob (by simp) e) (Nat.le_refl _) ⟨hl, hm, _, (KT.upd (KT_of hz) .nil).keeps fun c ys ec => ?_, qo, es, ep, hq', h2, h3, h4, h5⟩, rfl, q _ hf⟩
    rw [upd_ne (ne_of_none ec hf)]
    exact ec
theorem cg_dict (hc : X.calm = true) (hu : X.A.units + 3 < cLine) : CallR X (.type "dict") (rG X.K (gg1 gDict)) := by
  intro pins s σ H xs us Q I r h
  obtain ⟨x, rfl, B, a, q, sb', ra, hg, k⟩ := rG.one h
  unfold gDict at hg
  split at hg
  · obtain ⟨p, kvs, rfl, e1, e2, e3⟩ := ra.dk sb'
    cases hg
    exact call_dictD pins s σ H _ us Q I r ⟨p, kvs, rfl, e1, fun l hl => k.own sb' l _ (Sub.upd hl) hl ⟨_, upd_same, e2, e3⟩⟩
  · obtain ⟨p, ys, rfl, h1, h2⟩ := ra.lst sb'
    split at hg
    · rename_i ps hp
      split at hg
      · rename_i qs hk
        cases hg
        obtain ⟨as, kvs, rfl, h3, h4⟩ := pairsK_ok sb' h2 hp hk
        have U := h4.upd .nil
        exact call_dictP hc pins s σ H _ us Q I r ⟨p, as, kvs, rfl, .of h1, h3, fun l hl => k.own sb' l _ (Sub.upd hl) hl ⟨_, upd_same, U.keys, U.vals⟩⟩
      · split at hg
        · rename_i qs hk
          cases hg
          obtain ⟨zs, rfl, h3, h4⟩ := pairsT_ok I sb' h2 hp hk
          have U := h4.upd .nil
          cases Vals.ref1 r
          exact dict_T hc hu I (.of h1) h3 fun l hl => k.own sb' l _ (Sub.upd hl) hl ⟨_, upd_same, U.keys, U.vals⟩
        · cases hg
    · cases hg
  · cases hg
end
end DL

end
section
set_option maxRecDepth 100000
set_option maxHeartbeats 2000000
/-! DT3: the translation of expressions. -/
namespace DL
open PySem PySem.Spec PyProof.Rows L2

/-! ### operators, built-in functions by their names -/
def binG : Operator → Option (D → D → Option Sl)
  | .Add => some gAdd
  | .Sub => some gSub
  | .Mult => some gMul
  | .FloorDiv => some gDiv
  | .Mod => some gMod
  | .Pow => some gPow
  | _ => none
def cmpG : CmpOp → Option (D → D → Option Sl)
  | .Eq => some gEq
  | .NotEq => some gNe
  | .Lt => some gLt
  | .LtE => some gLe
  | .Gt => some gGt
  | .GtE => some gGe
  | .In => some gIn
  | .NotIn => some gNin
  | .Is => some gIsN
  | .IsNot => some gNotN
/-- built-in functions: whether it is a type, its id, what it gives -/
def biG (x : Str) : Option (Bool × String × (List D → Option Sl)) :=
  if x == ("len" : Str) then some (false, "len", gg1 gLen)
  else if x == ("abs" : Str) then some (false, "abs", gg1 gAbs)
  else if x == ("divmod" : Str) then some (false, "divmod", gg2 gDivmod)
  else if x == ("max" : Str) then some (false, "max", gMax)
  else if x == ("min" : Str) then some (false, "min", gMin)
  else if x == ("int" : Str) then some (true, "int", gg1 gInt)
  else if x == ("tuple" : Str) then some (true, "tuple", gg1 gTupOf)
  else if x == ("list" : Str) then some (true, "list", gg1 gLstOf)
  else if x == ("all" : Str) then some (false, "all", gg1 gAll)
  else if x == ("any" : Str) then some (false, "any", gg1 gAny)
  else if x == ("sum" : Str) then some (false, "sum", gg1 gSum)
  else if x == ("str" : Str) then some (true, "str", gg1 gStr)
  else if x == ("sorted" : Str) then some (false, "sorted", gg1 gSorted)
  else if x == ("repr" : Str) then some (false, "repr", gg1 gRepr)
  else if x == ("dict" : Str) then some (true, "dict", gg1 gDict)
  else none
theorem iteS {α : Type} {x y : Str} {a b : α} {r : Option α} (h : (if (x == y) = true then some a else r) = some b) : (x = y ∧ a = b) ∨ r = some b := by
  by_cases c : (x == y) = true
  · rw [if_pos c] at h; exact .inl ⟨eq_of_beq c, Option.some.inj h⟩
  · rw [if_neg c] at h; exact .inr h
section
variable {X : Cx} {F : Fr} {W : WX} {cf : Cf}
theorem CtxOk.un (c : CtxOk X F W cf) : X.A.units + 200 < cLine := by have := c.rm.un; omega
theorem binG_ok {op : Operator} {g : D → D → Option Sl} (h : binG op = some g) : OpR X (binaryOp op) (rG2 X.K g) := by
  cases op <;> cases h
  · exact og_add
  · exact og_sub
  · exact og_mul
  · exact og_mod
  · exact og_pow
  · exact og_div
theorem cmpG_ok (hu : X.A.units + 200 < cLine) {op : CmpOp} {g : D → D → Option Sl} (h : cmpG op = some g) : OpR X (compareOp op) (rG2 X.K g) := by
  cases op <;> cases h
  · exact og_eq (by omega)
  · exact og_ne (by omega)
  · exact og_lt
  · exact og_le
  · exact og_gt
  · exact og_ge
  · exact og_isN
  · exact og_notN
  · exact og_in (by omega)
  · exact og_nin (by omega)
theorem biG_ok (c : CtxOk X F W cf) {x : Str} {ty : Bool} {id : String} {g : List D → Option Sl} (h : biG x = some (ty, id, g)) :
    (ty = false ∧ bootBuiltins x = some (.builtin id) ∧ CallR X (.builtin id) (rG X.K g)) ∨ (ty = true ∧ bootBuiltins x = some (.type id) ∧ CallR X (.type id) (rG X.K g)) := by
  have hc := c.calm
  have hu := c.un
  unfold biG at h
  rcases iteS h with ⟨e, z⟩ | h
  · subst e; cases z; exact .inl ⟨rfl, rfl, cg_len⟩
  rcases iteS h with ⟨e, z⟩ | h
  · subst e; cases z; exact .inl ⟨rfl, rfl, cg_abs⟩
  rcases iteS h with ⟨e, z⟩ | h
  · subst e; cases z; exact .inl ⟨rfl, rfl, cg_divmod⟩
  rcases iteS h with ⟨e, z⟩ | h
  · subst e; cases z; exact .inl ⟨rfl, rfl, cg_max hc⟩
  rcases iteS h with ⟨e, z⟩ | h
  · subst e; cases z; exact .inl ⟨rfl, rfl, cg_min hc⟩
  rcases iteS h with ⟨e, z⟩ | h
  · subst e; cases z; exact .inr ⟨rfl, rfl, cg_int⟩
  rcases iteS h with ⟨e, z⟩ | h
  · subst e; cases z; exact .inr ⟨rfl, rfl, cg_tuple⟩
  rcases iteS h with ⟨e, z⟩ | h
  · subst e; cases z; exact .inr ⟨rfl, rfl, cg_list hc⟩
  rcases iteS h with ⟨e, z⟩ | h
  · subst e; cases z; exact .inl ⟨rfl, rfl, cg_all hc⟩
  rcases iteS h with ⟨e, z⟩ | h
  · subst e; cases z; exact .inl ⟨rfl, rfl, cg_any hc⟩
  rcases iteS h with ⟨e, z⟩ | h
  · subst e; cases z; exact .inl ⟨rfl, rfl, cg_sum hc⟩
  rcases iteS h with ⟨e, z⟩ | h
  · subst e; cases z; exact .inr ⟨rfl, rfl, cg_str⟩
  rcases iteS h with ⟨e, z⟩ | h
  · subst e; cases z; exact .inl ⟨rfl, rfl, cg_sorted hc (by omega)⟩
  rcases iteS h with ⟨e, z⟩ | h
  · subst e; cases z; exact .inl ⟨rfl, rfl, cg_repr c.gd (by omega)⟩
  rcases iteS h with ⟨e, z⟩ | h
  · subst e; cases z; exact .inr ⟨rfl, rfl, cg_dict hc (by omega)⟩
  cases h

/-! ### isinstance -/
def tyOf (cf : Cf) : Expr → Option String
  | .Name x _ => (match glb cf x with
    | some .bi => if x == ("int" : Str) then some "int" else if x == ("bool" : Str) then some "bool" else if x == ("str" : Str) then some "str" else if x == ("tuple" : Str) then some "tuple" else if x == ("list" : Str) then some "list" else if x == ("dict" : Str) then some "dict" else none
    | _ => none)
  | _ => none
def tysOf (cf : Cf) : List Expr → Option (List String)
  | [] => some []
  | e :: es => (match tyOf cf e, tysOf cf es with
    | some t, some ts => some (t :: ts)
    | _, _ => none)
def gIsis (Ts : List String) (d : D) : Option Sl := if notDt d then sb (Ts.any fun T => isTy (tyD d) T) else none
theorem tyOf_ok (c : CtxOk X F W cf) {e : Expr} {T : String} (h : tyOf cf e = some T) : PE X e (tC (.ty T)) ∧ tyOk T = true ∧ plainE e = true := by
  unfold tyOf at h
  split at h
  · rename_i x p
    split at h
    · rename_i hg
      obtain ⟨gl, nd, nn, hm⟩ := glb_ok c hg
      have hm : X.mg x = none := hm
      rcases iteS h with ⟨e, z⟩ | h
      · subst e; cases z; exact ⟨pe_bltn gl hm (by rfl) rfl nn nd, rfl, rfl⟩
      rcases iteS h with ⟨e, z⟩ | h
      · subst e; cases z; exact ⟨pe_bltn gl hm (by rfl) rfl nn nd, rfl, rfl⟩
      rcases iteS h with ⟨e, z⟩ | h
      · subst e; cases z; exact ⟨pe_bltn gl hm (by rfl) rfl nn nd, rfl, rfl⟩
      rcases iteS h with ⟨e, z⟩ | h
      · subst e; cases z; exact ⟨pe_bltn gl hm (by rfl) rfl nn nd, rfl, rfl⟩
      rcases iteS h with ⟨e, z⟩ | h
      · subst e; cases z; exact ⟨pe_bltn gl hm (by rfl) rfl nn nd, rfl, rfl⟩
      rcases iteS h with ⟨e, z⟩ | h
      · subst e; cases z; exact ⟨pe_bltn gl hm (by rfl) rfl nn nd, rfl, rfl⟩
      cases h
    · cases h
  · cases h
def tTys : List String → TA
  | [] => tNil
  | T :: Ts => tCons (tC (.ty T)) (tTys Ts)
theorem tysOf_ok (c : CtxOk X F W cf) : ∀ {es : List Expr} {Ts : List String}, tysOf cf es = some Ts → PA X es (tTys Ts) ∧ ∀ T ∈ Ts, tyOk T = true
  | [], Ts, h => by cases h; exact ⟨pa_nil, by simp⟩
  | e :: es, Ts, h => by
    unfold tysOf at h
    split at h
    · rename_i t ts h1 h2
      cases h
      obtain ⟨a1, a2, a3⟩ := tyOf_ok c h1
      obtain ⟨b1, b2⟩ := tysOf_ok c h2
      exact ⟨pa_cons a1 b1 (star_one a3), fun T hT => (List.mem_cons.mp hT).elim (fun e => by rw [e]; exact a2) (b2 T)⟩
    · cases h
theorem tTys_run : ∀ (Ts : List String) {σ : St} {H : Hp} {Q : List V → Hp → Prop}, Q (Ts.map V.ty) H → tTys Ts σ H Q
  | [], σ, H, Q, q => q
  | T :: Ts, σ, H, Q, q => tTys_run Ts q
theorem de_isi {T : String} {o : Opd} {a b : Expr} {p pos : Pos} (hK : F.K = X.K) (hg : Gl X "isinstance") (hm : X.mg "isinstance" = none) (ha : PE X a (tO F W o)) (na : plainE a = true) (hb : PE X b (tC (.ty T))) (nb : plainE b = true) (hT : tyOk T = true) (bo : bors F.n [o] = true) :
    PE X (.Call (.Name "isinstance" p) [a, b] [] pos) (tE F W (eN (gg1 (gIsi T)) [o])) := by
  have nb' : [b].all plainE = true := by simp [nb]
  refine (pe_callB call_isi hg hm (by rfl) (pa_cons ha (pa_cons hb pa_nil (star_one nb)) (star_one na)) (by decide) (by decide) (star_one na) (star_any nb')).imp fun σ H Q q => ?_
  refine tO_mono o σ H _ _ (fun x H1 q1 => ?_) (eN_run bo q)
  obtain ⟨x', e, B, d, s, sb', r, hgd, k⟩ := rG.one q1
  cases e
  rw [hK] at r k
  obtain ⟨c, e⟩ := ifT hgd
  cases e
  have nd : ∀ ks vs, d ≠ .dt ks vs := fun ks vs z => by subst z; cases c
  exact ⟨x, .ty T, .type (tyD d), .type T, isTy (tyD d) T, rfl, .ty T, r.tyx sb' nd, kit_all d T hT, k.bl sb'⟩
theorem RepN.al {K : PySem.W.Frag} {H B H' : Hp} {v : V} {d : D} (r : RepN K H B v d) (s : Sub H H') : RepN K H' B v d := by
  rcases r with r | ⟨p, rfl, n, ow⟩
  · exact .inl r
  · obtain ⟨o, e⟩ := ow.there
    exact .inr ⟨p, rfl, n, ow.mono (by rw [s _ _ e, e]) (.refl _)⟩
theorem paired_ty : ∀ Ts : List String, Paired ClsV (Ts.map V.ty) (Ts.map Value.type)
  | [] => .nil
  | T :: Ts => .cons (.ty T) (paired_ty Ts)
theorem kitAny_all {K : PySem.W.Frag} (d : D) : ∀ {Ts : List String}, (∀ T ∈ Ts, tyOk T = true) → PySem.W.kitAny K (.type (tyD d)) (Ts.map Value.type) = some (Ts.any fun T => isTy (tyD d) T)
  | [], _ => rfl
  | T :: Ts, h => by
    have ih := kitAny_all (K := K) d (Ts := Ts) fun T hT => h T (List.mem_cons_of_mem _ hT)
    refine kitAny_cons (kit_all d T (h T List.mem_cons_self)) (fun e => ?_) fun e => ?_
    · rw [List.any_cons, e, Bool.false_or]; exact ih
    · rw [List.any_cons, e]; rfl
theorem de_isis {Ts : List String} {o : Opd} {a : Expr} {es : List Expr} {kk : Nat} {p tp pos : Pos} (hK : F.K = X.K) (hg : Gl X "isinstance") (hm : X.mg "isinstance" = none) (ha : PE X a (tO F W o)) (na : plainE a = true) (hb : PA X es (tTys Ts)) (hT : ∀ T ∈ Ts, tyOk T = true) (hz : Ts.length ≤ sizeLine) (bo : bors F.n [o] = true) :
    PE X (.Call (.Name "isinstance" p) [a, .Tuple es kk tp] [] pos) (tE F W (eN (gg1 (gIsis Ts)) [o])) := by
  refine (pe_callB call_isiT hg hm (by rfl) (pa_cons ha (pa_cons (pe_tup hb) pa_nil (star_one rfl)) (star_one na)) (by decide) (by decide) (star_one na) (star_any rfl)).imp fun σ H Q q => ?_
  refine tO_mono o σ H _ _ (fun x H1 q1 => ?_) (eN_run bo q)
  obtain ⟨x', e, B, d, s, sb', r, hgd, k⟩ := rG.one q1
  cases e
  rw [hK] at r k
  obtain ⟨c, e⟩ := ifT hgd
  cases e
  have nd : ∀ ks vs, d ≠ .dt ks vs := fun ks vs z => by subst z; cases c
  refine tTys_run Ts ⟨by simpa using hz, fun q hq => ?_⟩
  have al := Sub.upd (o := .tup (Ts.map V.ty)) hq
  exact ⟨x, q, _, _, _, _, rfl, upd_same, paired_ty Ts, (r.al al).tyx (sb'.trans al) nd, kitAny_all d hT, k (.bl _) _ B ⟨al, .refl _, sb'.trans al, fun _ _ => rfl⟩ (.bl _)⟩
end
end DL

end
section
set_option maxRecDepth 100000
set_option maxHeartbeats 2000000
/-! DT4: the step of the translation: expressions, tests, sources, targets. -/
namespace DL
open PySem PySem.Spec PyProof.Rows L2

def boolE (T : Tr) (cf : Cf) (op : BoolOp) : List Expr → Option (M Sl)
  | [] => none
  | [a] => T.e cf a
  | a :: b :: rest => (match T.e cf a, boolE T cf op (b :: rest) with
    | some f, some g => some (match op with
      | .And => eAnd (.val f) g
      | .Or => eOr (.val f) g)
    | _, _ => none)
def boolT (T : Tr) (cf : Cf) (op : BoolOp) : List Expr → Option (M Bool)
  | [] => none
  | [a] => T.t cf a
  | a :: b :: rest => (match T.t cf a, boolT T cf op (b :: rest) with
    | some f, some g => some (match op with
      | .And => tAndM f g
      | .Or => tOrM f g)
    | _, _ => none)
def isSet : Expr → Bool
  | .Set _ _ _ => true
  | _ => false
def isTup : Expr → Bool
  | .Tuple _ _ _ => true
  | _ => false
def isBi (cf : Cf) (x : Str) : Bool := match glb cf x with
  | some .bi => true
  | _ => false
def biIs (cf : Cf) (y x : Str) : Bool := x == y && isBi cf x
def srcRng (T : Tr) (cf : Cf) (args : List Expr) : Option (M (List D)) := if args.length == 1 || args.length == 2 || args.length == 3 then (vls T cf args).map (srcG gRng) else none
def srcZp (T : Tr) (cf : Cf) (tg : Expr) (args : List Expr) : Option (M (List D)) := if isTup tg && (args.length == 2 || args.length == 3) then (vls T cf args).map (srcG gZip) else none
def srcEn (T : Tr) (cf : Cf) (tg : Expr) (args : List Expr) : Option (M (List D)) := if isTup tg && args.length == 1 then (vls T cf args).map (srcG gEnum) else none
/-- what a loop walks -/
def stSrc (T : Tr) (cf : Cf) (tg it : Expr) : Option (M (List D)) :=
  if isSet it then none else
  match it with
  | .Call (.Name x p) args [] pos => bif biIs cf "range" x then srcRng T cf args else bif biIs cf "zip" x then srcZp T cf tg args else bif biIs cf "enumerate" x then srcEn T cf tg args else (T.e cf (.Call (.Name x p) args [] pos)).map srcV
  | it => (T.e cf it).map srcV
/-- targets -/
def stTg : Nat → Cf → Expr → Option Tg
  | 0, _, _ => none
  | n + 1, cf, e => (match e with
    | .Name x _ => if cf.asg x then (ixOf cf.N x).map .nm else none
    | .Tuple es _ _ => if es.all plainE then (es.mapM (stTg n cf)).map .tp else none
    | _ => none)
def ownOf (cf : Cf) (scope : Scope) : List (Str × Nat) := scope.names.filterMap fun y => match y.2 with
  | .local => (ixOf cf.N y.1).map (y.1, ·)
  | .cell => (ixOf cf.N y.1).map (y.1, ·)
  | _ => none
def locB (scope : Scope) (x : Str) : Bool := match scope.names.lookup x with
  | some .local => true
  | some .cell => true
  | _ => false
def blkCf (cf : Cf) (scope : Scope) : Cf := { cf with sc := relS scope cf.sc, asg := locB scope }
def tstOf (T : Tr) (cf : Cf) : List Expr → Option (M Bool)
  | [] => some tYesM
  | [c] => T.t cf c
  | _ => none
def stComp (T : Tr) (cf : Cf) (ee : Expr) (gens : List Comprehension) (scope : Scope) : Option (M Sl) := match gens with
  | [⟨tg, it, ifs, 0⟩] =>
    if blkC cf.N cf.sc scope (ownOf cf scope) then (match stSrc T cf tg it, stTg 4 (blkCf cf scope) tg, tstOf T (blkCf cf scope) ifs, T.e (blkCf cf scope) ee with
      | some src, some t, some tst, some elt => if t.ix.all (fun i => ((ownOf cf scope).map (·.2)).contains i) then some (eComp src t ((ownOf cf scope).map (·.2)) tst elt) else none
      | _, _, _, _ => none) else none
  | _ => none
/-- sorted(set(a)), len(set(a)) -/
def ofSet (T : Tr) (cf : Cf) (g : D → Option Sl) (args : List Expr) : Option (M Sl) := match args with
  | [.Call (.Name y _) [a] [] _] => if y == ("set" : Str) && isBi cf y && plainE a then (opd T cf a).map fun o => eN (gg1 g) [o] else none
  | _ => none
/-- tuple(range(..)), list(range(..)) -/
def ofRg (T : Tr) (cf : Cf) (g : List D → Option Sl) (args : List Expr) : Option (M Sl) := match args with
  | [.Call (.Name y _) [a] [] _] => if biIs cf "range" y && plainE a then (opd T cf a).map fun o => eN g [o] else none
  | [.Call (.Name y _) [a, b] [] _] => if biIs cf "range" y && plainE a && plainE b then (match opd T cf a, opd T cf b with
    | some o1, some o2 => some (eN g [o1, o2])
    | _, _ => none) else none
  | _ => none
def isiOf (T : Tr) (cf : Cf) (args : List Expr) : Option (M Sl) := match args with
  | [a, .Tuple es _ _] => if plainE a && decide (es.length ≤ 20) then (match opd T cf a, tysOf cf es with
    | some o, some Ts => some (eN (gg1 (gIsis Ts)) [o])
    | _, _ => none) else none
  | [a, b] => if plainE a then (match opd T cf a, tyOf cf b with
    | some o, some t => some (eN (gg1 (gIsi t)) [o])
    | _, _ => none) else none
  | _ => none
def biOf (T : Tr) (cf : Cf) (x : Str) (args : List Expr) : Option (M Sl) := match args with
  | [] => none
  | e :: es => (match biG x, ops T cf (e :: es) with
    | some (_, _, g), some os => some (eN g os)
    | _, _ => none)
def nameB (cf : Cf) : Expr → Bool
  | .Name x _ => (slot cf x).isSome
  | _ => false
def fnOf (T : Tr) (cf : Cf) (g : Sig) (args : List Expr) : Option (M Sl) := match args with
  | [] => none
  | e :: es => if g.mi == some 0 && g.n == 1 && es.isEmpty && plainE e && !nameB cf e then (T.e cf e).map (eCall1t g.m) else (match opsC T cf g.mi 0 (e :: es) with
    | some os => if os.length == g.n && okOps g.mi 0 os then some (eCall g.mi g.m os) else none
    | none => none)
def metG (m : Str) : Option (D → List D → Option (D × D)) :=
  if m == ("append" : Str) then some gApp
  else if m == ("extend" : Str) then some gExt
  else if m == ("pop" : Str) then some gPop
  else none
def metD (T : Tr) (cf : Cf) (x : Str) (m : Str) (args : List Expr) (apos cpos : Pos) : Option (M Sl) := match slot cf x, args with
  | some i, [a] => if (m == ("update" : Str)) && (apos.endLine == cpos.line) then (vls T cf [a]).map (eMut "dict" i gUpd) else none
  | _, _ => none
def metOf (T : Tr) (cf : Cf) (o : Expr) (m : Str) (args : List Expr) (apos cpos : Pos) : Option (M Sl) := match o with
  | .Name x _ => (match slot cf x, metG m with
    | some i, some g => if apos.endLine == cpos.line then (match args with
      | [] => if m == ("pop" : Str) then some (eMut "list" i g []) else none
      | e :: es => if (e :: es).length < 20 then (vls T cf (e :: es)).map (eMut "list" i g) else none) else none
    | _, _ => metD T cf x m args apos cpos)
  | _ => none
def stCall (T : Tr) (cf : Cf) (f : Expr) (args : List Expr) (cpos : Pos) : Option (M Sl) := match f with
  | .Name x _ => (match glb cf x with
    | some (.fn g) => fnOf T cf g args
    | some .bi => if x == ("isinstance" : Str) then isiOf T cf args
      else (match (if x == ("sorted" : Str) then ofSet T cf gSortSet args else if x == ("len" : Str) then ofSet T cf gLenSet args else if x == ("tuple" : Str) then ofRg T cf gRgT args else if x == ("list" : Str) then ofRg T cf gRgL args else none) with
        | some f => some f
        | none => biOf T cf x args)
    | _ => none)
  | .Attribute o m apos => metOf T cf o m args apos cpos
  | _ => none
def slcOf (T : Tr) (cf : Cf) (a : Expr) (lo hi st : Option Expr) : Option (M Sl) := match opd T cf a with
  | none => none
  | some o1 => (match lo, hi, st with
    | none, none, none => some (eN (gg1 gCut00) [o1])
    | some b, none, none => (opd T cf b).map fun o2 => eN (gg2 gCut10) [o1, o2]
    | none, some b, none => (opd T cf b).map fun o2 => eN (gg2 gCut01) [o1, o2]
    | some b, some c, none => (match T.e cf b, T.e cf c with
      | some f2, some f3 => some (eN (gg3 gCut11) [o1, .val (eInt f2), .val (eInt f3)])
      | _, _ => none)
    | none, none, some b => (T.e cf b).map fun f2 => eN (gg2 gStep01) [o1, .val (eInt f2)]
    | some b, none, some c => (match T.e cf b, T.e cf c with
      | some f2, some f3 => some (eN (gg3 gStep11) [o1, .val (eInt f2), .val (eInt f3)])
      | _, _ => none)
    | _, _, _ => none)
def plainT : Expr → Bool
  | .UnaryOp _ _ _ => false
  | .BoolOp _ _ _ => false
  | .IfExp _ _ _ _ => false
  | .Compare _ _ _ _ => false
  | _ => true
def plainI : Expr → Bool
  | .Slice _ _ _ _ => false
  | .Name _ _ => true
  | .Constant _ _ _ => true
  | .BinOp _ _ _ _ => true
  | .UnaryOp _ _ _ => true
  | .Call _ _ _ _ => true
  | .Subscript _ _ _ => true
  | .IfExp _ _ _ _ => true
  | _ => false
def cmpE (T : Tr) (cf : Cf) (a : Expr) (os : List CmpOp) (es : List Expr) : Option (M Sl) := match os, es with
  | [op], [b] => if isSet b then none else (match cmpG op, opd T cf a, opd T cf b with
    | some g, some o1, some o2 => some (eN (gg2 g) [o1, o2])
    | _, _, _ => none)
  | [op, op'], [b, c] => (match ordB op, ordB op', opd T cf a, opd T cf b, opd T cf c with
    | some f, some g, some o1, some o2, some o3 => some (eChain f g o1 o2 o3)
    | _, _, _, _, _ => none)
  | _, _ => none
def stE (T : Tr) (cf : Cf) : Expr → Option (M Sl)
  | .Constant (.int i) _ _ => some (eC (.int i))
  | .Constant (.bool b) _ _ => some (eC (.bl b))
  | .Constant .none _ _ => some (eC .non)
  | .Constant (.str x) _ _ => some (eC (.str x))
  | .Name x _ => (match slot cf x with
    | some i => some (eVar i)
    | none => (match glb cf x with
      | some (.con d) => some (eC d)
      | _ => none))
  | .Tuple es _ _ => (vls T cf es).map (eN gTup)
  | .List es _ => (vls T cf es).map (eN gLst)
  | .Dict [] [] pos => some (eOwn (if cf.tk.contains pos.line then .dt [] [] else .dk [] []))
  | .Dict [some (.Name x _)] [.Constant (.bool b) _ _] _ => (slot cf x).map fun i => eN (gg1 (gDisp1 (.bl b))) [.bor i]
  | .BinOp a op b _ => (match binG op, opd T cf a, opd T cf b with
    | some g, some o1, some o2 => some (eN (gg2 g) [o1, o2])
    | _, _, _ => none)
  | .UnaryOp .USub a _ => (opd T cf a).map fun o => eN (gg1 gNeg) [o]
  | .UnaryOp .Not a _ => (opd T cf a).map eNot
  | .BoolOp op es _ => boolE T cf op es
  | .IfExp c a b _ => (match T.t cf c, T.e cf a, T.e cf b with
    | some fc, some f, some g => some (eIf fc f g)
    | _, _, _ => none)
  | .Compare a os es _ => cmpE T cf a os es
  | .Subscript a (.Slice lo hi st _) _ => slcOf T cf a lo hi st
  | .Subscript a b _ => if plainI b then (match opd T cf a, opd T cf b with
    | some o1, some o2 => some (eN (gg2 gIx) [o1, o2])
    | _, _ => none) else none
  | .Call f args [] pos => stCall T cf f args pos
  | .ListComp ee gens scope _ => stComp T cf ee gens scope
  | _ => none
def stT (T : Tr) (cf : Cf) : Expr → Option (M Bool)
  | .UnaryOp .Not a _ => (T.t cf a).map tNotM
  | .BoolOp op es _ => boolT T cf op es
  | .Compare a os es _ => (cmpE T cf a os es).map tB1
  | e => if plainT e then (opd T cf e).map tVal else none
section
variable {X : Cx} {F : Fr} {W : WX} {cf : Cf} {T : Tr}
theorem boolE_ok (c : CtxOk X F W cf) (K : TrOk T) {op : BoolOp} {pos : Pos} : ∀ {es : List Expr} {f : M Sl}, boolE T cf op es = some f → PE X (.BoolOp op es pos) (tE F W f)
  | [], f, h => by cases h
  | [a], f, h => pe_one (K.e X F W cf a f c h)
  | a :: b :: rest, f, h => by
    unfold boolE at h
    split at h
    · rename_i f1 f2 h1 h2
      cases h
      have p1 := PE.frz (K.e X F W cf a f1 c h1)
      have p2 := boolE_ok c K (pos := pos) h2
      cases op with
      | And =>
        refine (pe_andT p1 p2).imp fun σ H Q ⟨B, e, y, n, S, o⟩ => ?_
        refine tO_mono (.val f1) σ H _ _ (fun x H1 ⟨k, tr, q⟩ => ⟨k, by rw [← c.K]; exact tr, ?_⟩) (and_run false rfl rfl rfl n S o)
        cases k with
        | false => exact q
        | true => exact q
      | Or =>
        refine (pe_orT p1 p2).imp fun σ H Q ⟨B, e, y, n, S, o⟩ => ?_
        exact tO_mono (.val f1) σ H _ _ (fun x H1 ⟨k, tr, q⟩ => ⟨k, by rw [← c.K]; exact tr, q⟩) (and_run true rfl rfl rfl n S o)
    · cases h
theorem boolT_ok (c : CtxOk X F W cf) (K : TrOk T) {op : BoolOp} {pos : Pos} : ∀ {es : List Expr} {f : M Bool}, boolT T cf op es = some f → PW X (.BoolOp op es pos) (tT F W f)
  | [], f, h => by cases h
  | [a], f, h => by
    have p := K.t X F W cf a f c h
    cases op with
    | And => exact pw_and1 p
    | Or => exact pw_or1 p
  | a :: b :: rest, f, h => by
    unfold boolT at h
    split at h
    · rename_i f1 f2 h1 h2
      cases h
      have p1 := K.t X F W cf a f1 c h1
      have p2 := boolT_ok c K (pos := pos) h2
      cases op with
      | And => exact dw_and p1 p2
      | Or => exact dw_or p1 p2
    · cases h
theorem isBi_ok (c : CtxOk X F W cf) {x : Str} (h : isBi cf x = true) : Gl X x ∧ X.mg x = none ∧ (x == ("__debug__" : Str)) = false ∧ x ≠ "__name__" := by
  unfold isBi at h
  split at h
  · rename_i hg
    obtain ⟨a, b, d, e⟩ := glb_ok c hg
    exact ⟨a, e, b, d⟩
  · cases h
theorem map_some {α β : Type} {o : Option α} {f : α → β} {b : β} (h : o.map f = some b) : ∃ a, o = some a ∧ f a = b := by
  cases o with
  | none => cases h
  | some a => exact ⟨a, rfl, Option.some.inj h⟩
theorem fold_ok {it : Expr} (h : isSet it = false) : ∀ x, foldedSetIterable it X.env x = pure x := by
  intro x
  cases it <;> first | rfl | cases h
theorem vls_all (c : CtxOk X F W cf) (K : TrOk T) : ∀ {es : List Expr} {os : List Opd}, vls T cf es = some os → allVal os = true
  | [], os, h => by cases h; rfl
  | e :: es, os, h => by
    unfold vls at h
    split at h
    · cases h1 : T.e cf e with
      | none => rw [h1] at h; cases h
      | some f => cases h2 : vls T cf es with
        | none => rw [h1, h2] at h; cases h
        | some os' => rw [h1, h2] at h; cases h; exact (vls_all c K (es := es) (os := os') h2)
    · cases h
theorem vls_ok (c : CtxOk X F W cf) (K : TrOk T) {es : List Expr} {os : List Opd} (h : vls T cf es = some os) : PA X es (chain F W os) ∧ bors F.n os = true ∧ es.all plainE = true ∧ os.length = es.length ∧ allVal os = true := by
  obtain ⟨a, b, d, e⟩ := pa_vls c K h
  exact ⟨a, b, d, e, vls_all c K h⟩
theorem biIs_ok (c : CtxOk X F W cf) {y x : Str} (h : biIs cf y x = true) : x = y ∧ Gl X y ∧ X.mg y = none ∧ (y == ("__debug__" : Str)) = false ∧ y ≠ "__name__" := by
  unfold biIs at h
  rw [Bool.and_eq_true] at h
  have e := eq_of_beq h.1
  subst e
  exact ⟨rfl, isBi_ok c h.2⟩
theorem ifN {α : Type} {c : Bool} {r : Option α} {s : α} (h : (if c = true then r else none) = some s) : c = true ∧ r = some s := by
  cases c with
  | true => exact ⟨rfl, h⟩
  | false => cases h
theorem all2 {a b : Expr} (h : [a, b].all plainE = true) : plainE a = true ∧ plainE b = true := by simpa using h
theorem all3 {a b d : Expr} (h : [a, b, d].all plainE = true) : plainE a = true ∧ plainE b = true ∧ plainE d = true := by simpa using h
theorem srcRng_ok (c : CtxOk X F W cf) (K : TrOk T) {tg : Expr} {args : List Expr} {src : M (List D)} {p pos : Pos} (hg : Gl X "range") (hm : X.mg "range" = none) (h : srcRng T cf args = some src) : PI X tg (.Call (.Name "range" p) args [] pos) (tI F W src) := by
  obtain ⟨hl, h⟩ := ifN h
  obtain ⟨os, h1, rfl⟩ := map_some h
  obtain ⟨a1, a2, a3, a4, a5⟩ := vls_ok c K h1
  simp only [Bool.or_eq_true, beq_iff_eq] at hl
  match args, os, a1, a2, a3, a4, a5, hl with
  | [a], [o1], a1, a2, a3, _, a5, _ => exact pi_rng1 c.K hg hm a1 (by simpa using a3) a2 a5
  | [a, b], [o1, o2], a1, a2, a3, _, a5, _ => exact pi_rng2 c.K hg hm a1 (all2 a3).1 (all2 a3).2 a2 a5
  | [a, b, d], [o1, o2, o3], a1, a2, a3, _, a5, _ => exact pi_rng3 c.K hg hm a1 (all3 a3).1 (by simp [(all3 a3).2.1, (all3 a3).2.2]) a2 a5
  | [], _, _, _, _, _, _, hl => simp at hl
  | _ :: _ :: _ :: _ :: _, _, _, _, _, _, _, hl => simp at hl
theorem srcZp_ok (c : CtxOk X F W cf) (K : TrOk T) {tg : Expr} {args : List Expr} {src : M (List D)} {p pos : Pos} (hg : Gl X "zip") (hm : X.mg "zip" = none) (h : srcZp T cf tg args = some src) : PI X tg (.Call (.Name "zip" p) args [] pos) (tI F W src) := by
  obtain ⟨hl, h⟩ := ifN h
  obtain ⟨os, h1, rfl⟩ := map_some h
  obtain ⟨a1, a2, a3, a4, a5⟩ := vls_ok c K h1
  simp only [Bool.and_eq_true, Bool.or_eq_true, beq_iff_eq] at hl
  cases tg with
  | Tuple elts kk tp =>
    match args, os, a1, a2, a3, a4, a5, hl with
    | [a, b], [o1, o2], a1, a2, a3, _, a5, _ => exact pi_zp2 c.calm c.K hg hm a1 (all2 a3).1 (by simp [(all2 a3).2]) a2 a5
    | [a, b, d], [o1, o2, o3], a1, a2, a3, _, a5, _ => exact pi_zp3 c.calm c.K hg hm a1 (all3 a3).1 (by simp [(all3 a3).2.1, (all3 a3).2.2]) a2 a5
    | [], _, _, _, _, _, _, hl => simp at hl
    | [_], _, _, _, _, _, _, hl => simp at hl
    | _ :: _ :: _ :: _ :: _, _, _, _, _, _, _, hl => simp at hl
  | _ => exact absurd hl.1 (by simp [isTup])
theorem srcEn_ok (c : CtxOk X F W cf) (K : TrOk T) {tg : Expr} {args : List Expr} {src : M (List D)} {p pos : Pos} (hg : Gl X "enumerate") (hm : X.mg "enumerate" = none) (h : srcEn T cf tg args = some src) : PI X tg (.Call (.Name "enumerate" p) args [] pos) (tI F W src) := by
  obtain ⟨hl, h⟩ := ifN h
  obtain ⟨os, h1, rfl⟩ := map_some h
  obtain ⟨a1, a2, a3, a4, a5⟩ := vls_ok c K h1
  simp only [Bool.and_eq_true, beq_iff_eq] at hl
  cases tg with
  | Tuple elts kk tp =>
    match args, os, a1, a2, a3, a4, a5, hl with
    | [a], [o1], a1, a2, a3, _, a5, _ => exact pi_enm c.calm c.K hg hm a1 (by simpa using a3) a2 a5
    | [], _, _, _, _, _, _, hl => simp at hl
    | _ :: _ :: _, _, _, _, _, _, _, hl => simp at hl
  | _ => exact absurd hl.1 (by simp [isTup])
theorem src_ok (c : CtxOk X F W cf) (K : TrOk T) {tg it : Expr} {src : M (List D)} (h : stSrc T cf tg it = some src) : PI X tg it (tI F W src) ∧ isSet it = false := by
  have other : ∀ {e : Expr}, (T.e cf e).map srcV = some src → PI X tg e (tI F W src) := fun {e} h => by
    obtain ⟨f, h1, rfl⟩ := map_some h
    exact pi_srcV c.K (PE.frz (K.e X F W cf e f c h1))
  unfold stSrc at h
  cases hs : isSet it with
  | true => rw [hs] at h; cases h
  | false =>
    rw [hs] at h
    refine ⟨?_, rfl⟩
    simp only [Bool.false_eq_true, if_false] at h
    split at h
    · rename_i x p args pos
      cases h1 : biIs cf "range" x with
      | true =>
        rw [h1] at h
        obtain ⟨rfl, g1, g2, _⟩ := biIs_ok c h1
        exact srcRng_ok c K g1 g2 h
      | false =>
        rw [h1] at h
        cases h2 : biIs cf "zip" x with
        | true =>
          rw [h2] at h
          obtain ⟨rfl, g1, g2, _⟩ := biIs_ok c h2
          exact srcZp_ok c K g1 g2 h
        | false =>
          rw [h2] at h
          cases h3 : biIs cf "enumerate" x with
          | true =>
            rw [h3] at h
            obtain ⟨rfl, g1, g2, _⟩ := biIs_ok c h3
            exact srcEn_ok c K g1 g2 h
          | false =>
            rw [h3] at h
            exact other h
    · exact other h

/-! ### targets, comprehensions -/
theorem asgEach_one {e : Expr} {es : List Expr} {env : Env} (h : plainE e = true) : assignEach (e :: es) env = (false, assign e env) :: assignEach es env := by
  cases e <;> first | rfl | cases h
theorem asgEach_len {env : Env} : ∀ {es : List Expr}, es.all plainE = true → (assignEach es env).length = es.length ∧ (assignEach es env).findIdx? (·.1) = none
  | [], _ => ⟨rfl, rfl⟩
  | e :: es, h => by
    have h' : plainE e = true ∧ es.all plainE = true := by simpa using h
    obtain ⟨a, b⟩ := asgEach_len (env := env) h'.2
    rw [asgEach_one h'.1]
    exact ⟨by simp [a], by rw [List.findIdx?_cons]; simp [b]⟩
theorem tgs_ok (c : CtxOk X F W cf) {n : Nat} (ih : ∀ {e : Expr} {t : Tg}, stTg n cf e = some t → PG X e (gT F t)) : ∀ {es : List Expr} {ts : List Tg}, es.all plainE = true → es.mapM (stTg n cf) = some ts → PGs X es (gTs F ts) ∧ ts.length = es.length
  | [], ts, _, h => by
    rw [List.mapM_nil] at h
    cases h
    exact ⟨dgs_nil, rfl⟩
  | e :: es, ts, hp, h => by
    have h' : plainE e = true ∧ es.all plainE = true := by simpa using hp
    rw [List.mapM_cons] at h
    cases h1 : stTg n cf e with
    | none => rw [h1] at h; cases h
    | some t =>
      rw [h1] at h
      cases h2 : es.mapM (stTg n cf) with
      | none => simp [h2] at h
      | some ts' =>
        simp [h2] at h
        subst h
        obtain ⟨a, b⟩ := tgs_ok c ih h'.2 h2
        exact ⟨dgs_cons (ih h1) a (by rw [asgEach_one h'.1]; rfl), by simp [b]⟩
theorem tg_ok (c : CtxOk X F W cf) : ∀ {n : Nat} {e : Expr} {t : Tg}, stTg n cf e = some t → PG X e (gT F t)
  | 0, e, t, h => by cases h
  | n + 1, e, t, h => by
    unfold stTg at h
    split at h
    · rename_i x p
      obtain ⟨ha, h⟩ := ifN h
      obtain ⟨i, h1, rfl⟩ := map_some h
      have hi := ixOf_ok h1
      obtain ⟨l1, l2⟩ := c.asg x ha
      rw [← c.N] at hi
      refine dg_name (pg_name c.nd hi l1 l2) ?_
      rw [c.n, ← c.N]
      exact (List.getElem?_eq_some_iff.mp hi).1
    · rename_i es k p
      obtain ⟨ha, h⟩ := ifN h
      obtain ⟨ts, h1, rfl⟩ := map_some h
      obtain ⟨a, b⟩ := tgs_ok c (fun {e t} => tg_ok c (n := n)) ha h1
      obtain ⟨l1, l2⟩ := asgEach_len (env := X.env) ha
      exact dg_tup c.calm c.K a (by rw [l1, b]) l2
    · cases h
theorem relS_eq (scope : Scope) (cl : List (Str × Addr)) (C : Addr) (env : Env) : (compEnvC scope cl C env).scope = relS scope env.scope := rfl
theorem relS_lookup {sc : Scope} {x : Str} {kd : NameKind} (nf : kd ≠ .free) : ∀ {l : List (Str × NameKind)}, l.lookup x = some kd → (l.map fun (n, k) => if (k == .free && sc.kind == .function && sc.names.lookup n == some .cell) then (n, NameKind.cell) else (n, k)).lookup x = some kd
  | [], h => by cases h
  | (n, k) :: l, h => by
    show List.lookup x ((if (k == .free && sc.kind == .function && sc.names.lookup n == some .cell) = true then (n, NameKind.cell) else (n, k)) :: _) = _
    rw [List.lookup_cons] at h
    by_cases hx : (x == n) = true
    · rw [hx] at h
      have h : some k = some kd := h
      cases h
      have hk : ¬ ((kd == NameKind.free && sc.kind == .function && sc.names.lookup n == some .cell) = true) := fun q => by
        rw [Bool.and_eq_true, Bool.and_eq_true] at q
        exact nf (eq_of_beq q.1.1)
      rw [if_neg hk, List.lookup_cons, hx]
    · have hx : (x == n) = false := by simpa using hx
      rw [hx] at h
      have ih := relS_lookup nf (l := l) (sc := sc) h
      by_cases hk : (k == .free && sc.kind == .function && sc.names.lookup n == some .cell) = true
      · rw [if_pos hk, List.lookup_cons, hx]; exact ih
      · rw [if_neg hk, List.lookup_cons, hx]; exact ih
theorem blk_ctx (c : CtxOk X F W cf) (s : Shared) (H : Hp) (scope : Scope) (cl : List (Str × Addr)) (C : Addr) (fp : List Addr) : CtxOk (X.blk s H scope (compEnvC scope cl C X.env) fp) F never (blkCf cf scope) where
  N := c.N
  nd := c.nd
  sc := by
    show relS scope X.env.scope = relS scope cf.sc
    rw [c.sc]
  asg := fun x h => by
    have h : locB scope x = true := h
    unfold locB at h
    split at h
    · rename_i q
      have l := relS_lookup (sc := X.env.scope) (by decide) q
      exact ⟨.inl l, .inr l⟩
    · rename_i q
      have l := relS_lookup (sc := X.env.scope) (by decide) q
      exact ⟨.inr l, .inl (by show (scope.names.lookup x == some .cell) = true; rw [q]; rfl)⟩
    · cases h
  calm := c.calm
  K := c.K
  mg := c.mg
  n := c.n
  gt := c.gt
  gd := c.gd
  rm := c.rm
  tk := fun u s' ⟨a, B, sI, pins, σ, H, cls, d, e, I, nb, up, sky, na, os, ag, w⟩ => w.elim
  ps := .never
theorem tst_ok {X : Cx} {F : Fr} {W : WX} {cf : Cf} (c : CtxOk X F W cf) (K : TrOk T) {ifs : List Expr} {f : M Bool} (h : tstOf T cf ifs = some f) : PTs X ifs (tT F W f) := by
  match ifs, h with
  | [], h => cases h; exact dts_nil
  | [a], h => exact dts_one (K.t X F W cf a f c h)
theorem comp_parts (c : CtxOk X F W cf) (K : TrOk T) {ee : Expr} {gens : List Comprehension} {scope : Scope} {f : M Sl} (h : stComp T cf ee gens scope = some f) :
    ∃ tg it ifs src t tst elt, gens = [⟨tg, it, ifs, 0⟩] ∧ f = eComp src t ((ownOf cf scope).map (·.2)) tst elt ∧ PI X tg it (tI F W src) ∧ BlkOk X.N X.env.scope scope (ownOf cf scope) ∧
      (∀ (s : Shared) (H : Hp) (C : Addr) (cl : List (Str × Addr)) (fp : List Addr), PG (X.blk s H scope (compEnvC scope cl C X.env) fp) tg (gT F t)) ∧ (∀ (s : Shared) (H : Hp) (C : Addr) (cl : List (Str × Addr)) (fp : List Addr), PTs (X.blk s H scope (compEnvC scope cl C X.env) fp) ifs (tT F never tst)) ∧
      (∀ (s : Shared) (H : Hp) (C : Addr) (cl : List (Str × Addr)) (fp : List Addr), PE (X.blk s H scope (compEnvC scope cl C X.env) fp) ee (tV F never elt)) ∧ (∀ x, foldedSetIterable it X.env x = pure x) ∧ (∀ i ∈ t.ix, i ∈ (ownOf cf scope).map (·.2)) ∧ (∀ i ∈ (ownOf cf scope).map (·.2), i < F.n) := by
  unfold stComp at h
  split at h
  · rename_i tg it ifs
    obtain ⟨hb, h⟩ := ifN h
    split at h
    · rename_i src t tst elt h1 h2 h3 h4
      obtain ⟨ha, h⟩ := ifN h
      cases h
      obtain ⟨p1, p2⟩ := src_ok c K h1
      refine ⟨tg, it, ifs, src, t, tst, elt, rfl, rfl, p1, blkOk_by (by rw [c.N, c.sc]; exact hb), fun s H C cl fp => tg_ok (blk_ctx c s H scope cl C fp) h2, fun s H C cl fp => tst_ok (blk_ctx c s H scope cl C fp) K h3,
        fun s H C cl fp => PE.frz (K.e _ F never _ ee elt (blk_ctx c s H scope cl C fp) h4), fold_ok p2, fun i hi => ?_, fun i hi => ?_⟩
      · have := List.all_eq_true.mp ha i hi
        simpa using this
      · obtain ⟨⟨x, j⟩, hm, rfl⟩ := List.mem_map.mp hi
        obtain ⟨y, _, hy⟩ := List.mem_filterMap.mp hm
        have : ∃ i', ixOf cf.N y.1 = some i' ∧ (y.1, i') = (x, j) := by
          split at hy
          · exact map_some hy
          · exact map_some hy
          · cases hy
        obtain ⟨i', g1, g2⟩ := this
        cases g2
        rw [c.n]
        exact (List.getElem?_eq_some_iff.mp (ixOf_ok g1)).1
    · cases h
  · cases h
theorem comp_ok (c : CtxOk X F W cf) (K : TrOk T) {ee : Expr} {gens : List Comprehension} {scope : Scope} {pos : Pos} {f : M Sl} (h : stComp T cf ee gens scope = some f) : PE X (.ListComp ee gens scope pos) (tE F W f) := by
  obtain ⟨tg, it, ifs, src, t, tst, elt, rfl, rfl, p1, p2, p3, p4, p5, p6, p7, p8⟩ := comp_parts c K h
  exact de_comp c.calm c.nd p1 p2 p3 p4 p5 p6 p7 p8
end
end DL

end
section
set_option maxRecDepth 100000
set_option maxHeartbeats 2000000
/-! DT5: the step of the translation is sound: expressions and tests. -/
namespace DL
open PySem PySem.Spec PyProof.Rows L2
section
variable {X : Cx} {F : Fr} {W : WX} {cf : Cf} {T : Tr}
theorem eNot_ok (c : CtxOk X F W cf) {o : Opd} {a : Expr} {pos : Pos} (h : PE X a (tO F W o)) (hb : bors F.n [o] = true) : PE X (.UnaryOp .Not a pos) (tE F W (eNot o)) := de_notV c.K hb h
theorem bi_ok (c : CtxOk X F W cf) (K : TrOk T) {x : Str} {args : List Expr} {f : M Sl} {p pos : Pos} (hg : glb cf x = some .bi) (h : biOf T cf x args = some f) : PE X (.Call (.Name x p) args [] pos) (tE F W f) := by
  obtain ⟨g1, g3, g4, g2⟩ := glb_ok c hg
  have g2 : X.mg x = none := g2
  unfold biOf at h
  split at h
  · cases h
  · rename_i e es
    split at h
    · rename_i ty id g os h1 h2
      cases h
      obtain ⟨a1, a2, a3, a4⟩ := pa_ops c K h2
      have a3' : plainE e = true ∧ es.all plainE = true := by simpa using a3
      have fin : ∀ {r : List V → Hp → VK → Prop}, PE X (.Call (.Name x p) (e :: es) [] pos) (tCB r (chain F W os)) → r = rG X.K g → PE X (.Call (.Name x p) (e :: es) [] pos) (tE F W (eN g os)) := fun {r} q er => by
        subst er
        refine de_n q (fun xs H Q z => ?_) a2
        rw [c.K] at z
        exact z
      rcases biG_ok c h1 with ⟨_, b2, b3⟩ | ⟨_, b2, b3⟩
      · exact fin (pe_callB b3 g1 g2 b2 a1 g4 g3 (star_one a3'.1) (star_any a3'.2)) rfl
      · exact fin (pe_callTy b3 g1 g2 b2 a1 g4 g3 (star_one a3'.1) (star_any a3'.2)) rfl
    · cases h
theorem fn_ok (c : CtxOk X F W cf) (K : TrOk T) {x : Str} {g : Sig} {args : List Expr} {f : M Sl} {p pos : Pos} (hg : glb cf x = some (.fn g)) (h : fnOf T cf g args = some f) : PE X (.Call (.Name x p) args [] pos) (tE F W f) := by
  obtain ⟨g1, g3, g4, g2⟩ := glb_ok c hg
  obtain ⟨hj, k, fa, G, m1, m2, m3⟩ := g2
  unfold fnOf at h
  split at h
  · cases h
  · rename_i e es
    by_cases hq : (g.mi == some 0 && g.n == 1 && es.isEmpty && plainE e && !nameB cf e) = true
    · rw [if_pos hq] at h
      simp only [Bool.and_eq_true, beq_iff_eq, List.isEmpty_iff] at hq
      obtain ⟨⟨⟨⟨q1, q2⟩, q3⟩, q4⟩, _⟩ := hq
      subst q3
      obtain ⟨f1, h1, rfl⟩ := map_some h
      rw [q1, q2] at G
      exact de_call1t c.K c.mg G m3 c.gd c.tk g1 m1 m2 g3 (K.e X F W cf e f1 c h1) q4
    rw [if_neg hq] at h
    split at h
    · rename_i os h2
      obtain ⟨hc, h⟩ := ifN h
      cases h
      rw [Bool.and_eq_true, beq_iff_eq] at hc
      obtain ⟨a1, a2, a3, a4⟩ := pa_opsC c K h2
      have a3' : plainE e = true ∧ es.all plainE = true := by simpa using a3
      refine de_call c.K c.mg a2 hc.2 (fun j ej => by rw [hc.1]; exact hj j ej) ?_
      have G' : FnG X.prog X.w X.K X.mg X.base k fa g.n (spM X.K X.mg os.length g.mi g.m) := by rw [hc.1]; exact G
      exact pe_callG G' m3 c.gd c.tk g1 m1 m2 a1 g3 (star_one a3'.1) (star_any a3'.2)
    · cases h
theorem ofSet_ok (c : CtxOk X F W cf) (K : TrOk T) {g : D → Option Sl} {args : List Expr} {f : M Sl} (h : ofSet T cf g args = some f) :
    ∃ y p a q o, args = [.Call (.Name y p) [a] [] q] ∧ y = "set" ∧ Gl X "set" ∧ X.mg "set" = none ∧ PE X a (tO F W o) ∧ bors F.n [o] = true ∧ plainE a = true ∧ f = eN (gg1 g) [o] := by
  unfold ofSet at h
  split at h
  · rename_i y p a q
    obtain ⟨hc, h⟩ := ifN h
    rw [Bool.and_eq_true, Bool.and_eq_true] at hc
    obtain ⟨o, h1, rfl⟩ := map_some h
    obtain ⟨b1, b2⟩ := opd_ok c K h1
    obtain ⟨g1, g2, _⟩ := isBi_ok c hc.1.2
    have e := eq_of_beq hc.1.1
    subst e
    exact ⟨_, p, a, q, o, rfl, rfl, g1, g2, b1, b2, hc.2, rfl⟩
  · cases h
theorem ofRg_ok (c : CtxOk X F W cf) (K : TrOk T) {b : Bool} {g : List D → Option Sl} {args : List Expr} {f : M Sl} {p pos : Pos} (hg : g = if b then gRgT else gRgL) (g1 : Gl X (if b then "tuple" else "list")) (g2 : X.mg (if b then "tuple" else "list") = none) (h : ofRg T cf g args = some f) :
    PE X (.Call (.Name (if b then "tuple" else "list") p) args [] pos) (tE F W f) := by
  unfold ofRg at h
  split at h
  · rename_i y p2 a q
    obtain ⟨hc, h⟩ := ifN h
    rw [Bool.and_eq_true] at hc
    obtain ⟨o, h1, rfl⟩ := map_some h
    obtain ⟨b1, b2⟩ := opd_ok c K h1
    obtain ⟨rfl, s1, s2, _⟩ := biIs_ok c hc.1
    subst hg
    have pr := prg_1 (p := p2) (pos := q) s1 s2 b1 (star_one hc.2)
    cases b with
    | true => exact (pe_tupRg c.calm g1 g2 pr (star_one rfl)).imp fun σ H Q z => rg1_run (T := true) b2 z
    | false => exact (pe_listRg c.calm g1 g2 pr (star_one rfl)).imp fun σ H Q z => rg1_run (T := false) b2 z
  · rename_i y p2 a1 a2 q
    obtain ⟨hc, h⟩ := ifN h
    rw [Bool.and_eq_true, Bool.and_eq_true] at hc
    split at h
    · rename_i o1 o2 h1 h2
      cases h
      obtain ⟨b1, b2⟩ := opd_ok c K h1
      obtain ⟨d1, d2⟩ := opd_ok c K h2
      obtain ⟨rfl, s1, s2, _⟩ := biIs_ok c hc.1.1
      subst hg
      have pr := prg_2 (p := p2) (pos := q) s1 s2 b1 d1 (star_one hc.1.2) (star_one hc.2) (star_any (by simp [hc.2]))
      cases b with
      | true => exact (pe_tupRg c.calm g1 g2 pr (star_one rfl)).imp fun σ H Q z => rg2_run (T := true) (bors_cons b2 d2) z
      | false => exact (pe_listRg c.calm g1 g2 pr (star_one rfl)).imp fun σ H Q z => rg2_run (T := false) (bors_cons b2 d2) z
    · cases h
  · cases h
theorem isi_ok (c : CtxOk X F W cf) (K : TrOk T) {args : List Expr} {f : M Sl} {p pos : Pos} (hg : glb cf "isinstance" = some .bi) (h : isiOf T cf args = some f) : PE X (.Call (.Name "isinstance" p) args [] pos) (tE F W f) := by
  obtain ⟨g1, g3, g4, g2⟩ := glb_ok c hg
  have g2 : X.mg "isinstance" = none := g2
  unfold isiOf at h
  split at h
  · rename_i a es k tp
    obtain ⟨hp, h⟩ := ifN h
    rw [Bool.and_eq_true, decide_eq_true_eq] at hp
    split at h
    · rename_i o Ts h1 h2
      cases h
      obtain ⟨a1, a2⟩ := opd_ok c K h1
      obtain ⟨b1, b2⟩ := tysOf_ok c h2
      have hl : ∀ {es : List Expr} {Ts : List String}, tysOf cf es = some Ts → Ts.length = es.length := by
        intro es
        induction es with
        | nil => intro Ts h; cases h; rfl
        | cons e es ih =>
          intro Ts h
          unfold tysOf at h
          split at h
          · cases h
            rename_i h5
            simp [ih h5]
          · cases h
      exact de_isis c.K g1 g2 a1 hp.1 b1 b2 (by rw [hl h2, sizeLine_eq]; omega) a2
    · cases h
  · rename_i a b _
    obtain ⟨hp, h⟩ := ifN h
    split at h
    · rename_i o t h1 h2
      cases h
      obtain ⟨a1, a2⟩ := opd_ok c K h1
      obtain ⟨b1, b2, b3⟩ := tyOf_ok c h2
      exact de_isi c.K g1 g2 a1 hp b1 b3 b2 a2
    · cases h
  · cases h
theorem metG_ok {m : Str} {g : D → List D → Option (D × D)} (h : metG m = some g) : ∃ id, Slot "list" m id ∧ typeOf (.builtin id) = pure (.type "method_descriptor") ∧ MtR X id (rMu X.K g) := by
  unfold metG at h
  rcases iteS h with ⟨e, z⟩ | h
  · subst e; cases z; exact ⟨_, PySem.F.slot_list_append, PySem.F.type_list_append, mg_app⟩
  rcases iteS h with ⟨e, z⟩ | h
  · subst e; cases z; exact ⟨_, PySem.F.slot_list_extend, PySem.F.type_list_extend, mg_ext⟩
  rcases iteS h with ⟨e, z⟩ | h
  · subst e; cases z; exact ⟨_, PySem.F.slot_list_pop, PySem.F.type_list_pop, mg_pop0⟩
  cases h
theorem metD_ok (c : CtxOk X F W cf) (K : TrOk T) {x : Str} {p : Pos} {m : Str} {args : List Expr} {apos cpos : Pos} {f : M Sl} (h : metD T cf x m args apos cpos = some f) : PE X (.Call (.Attribute (.Name x p) m apos) args [] cpos) (tE F W f) := by
  unfold metD at h
  split at h
  · rename_i i a h1
    obtain ⟨hl0, hf⟩ := ifN h
    obtain ⟨he, hl⟩ := Bool.and_eq_true_iff.mp hl0
    obtain rfl := eq_of_beq he
    obtain ⟨v1, v2, v3⟩ := slot_ok c (pos := p) h1
    obtain ⟨os, h3, rfl⟩ := map_some hf
    obtain ⟨a1, a2, a3, a4, a5⟩ := vls_ok c K h3
    exact de_mut c.K PySem.F.plainAttrs_dict PySem.F.slot_dict_update ty_update (mg_upd (by have := c.un; omega)) v1 v2 a1 a2 a5 rfl hl a3 (by simp)
  · cases h
theorem met_ok (c : CtxOk X F W cf) (K : TrOk T) {o : Expr} {m : Str} {args : List Expr} {apos cpos : Pos} {f : M Sl} (h : metOf T cf o m args apos cpos = some f) : PE X (.Call (.Attribute o m apos) args [] cpos) (tE F W f) := by
  unfold metOf at h
  split at h
  · rename_i x p
    split at h
    · rename_i i g h1 h2
      obtain ⟨hl, h⟩ := ifN h
      obtain ⟨v1, v2, v3⟩ := slot_ok c (pos := p) h1
      obtain ⟨id, m1, m2, m3⟩ := metG_ok (X := X) h2
      match args, h with
      | [], h =>
        obtain ⟨_, h⟩ := ifN h
        cases h
        exact de_mut0 c.K PySem.F.plainAttrs_list m1 m2 m3 v1 v2 rfl hl
      | e :: es, h =>
        have h : (if (e :: es).length < 20 then (vls T cf (e :: es)).map (eMut "list" i g) else none) = some f := h
        by_cases hn : (e :: es).length < 20
        · rw [if_pos hn] at h
          obtain ⟨os, h3, rfl⟩ := map_some h
          obtain ⟨a1, a2, a3, a4, a5⟩ := vls_ok c K h3
          exact de_mut c.K PySem.F.plainAttrs_list m1 m2 m3 v1 v2 a1 a2 a5 rfl hl a3 hn
        · rw [if_neg hn] at h; cases h
    · exact metD_ok c K h
  · cases h
theorem call_ok (c : CtxOk X F W cf) (K : TrOk T) {fe : Expr} {args : List Expr} {pos : Pos} {f : M Sl} (h : stCall T cf fe args pos = some f) : PE X (.Call fe args [] pos) (tE F W f) := by
  unfold stCall at h
  split at h
  · rename_i x p
    split at h
    · rename_i g hg
      exact fn_ok c K hg h
    · rename_i hg
      by_cases hi : (x == ("isinstance" : Str)) = true
      · rw [if_pos hi] at h
        have e := eq_of_beq hi
        subst e
        exact isi_ok c K hg h
      · rw [if_neg hi] at h
        obtain ⟨g1, g3, g4, g2⟩ := glb_ok c hg
        have g2 : X.mg x = none := g2
        split at h
        · rename_i f' hs
          cases h
          by_cases h1 : (x == ("sorted" : Str)) = true
          · rw [if_pos h1] at hs
            have e := eq_of_beq h1
            subst e
            obtain ⟨y, p2, a, q, o, rfl, rfl, s1, s2, s3, s4, s5, rfl⟩ := ofSet_ok c K hs
            exact de_sortSet c.calm c.K g1 g2 s1 s2 s3 s4 s5
          · rw [if_neg h1] at hs
            by_cases h2 : (x == ("len" : Str)) = true
            · rw [if_pos h2] at hs
              have e := eq_of_beq h2
              subst e
              obtain ⟨y, p2, a, q, o, rfl, rfl, s1, s2, s3, s4, s5, rfl⟩ := ofSet_ok c K hs
              exact de_lenSet c.calm c.K g1 g2 s1 s2 s3 s4 s5
            · rw [if_neg h2] at hs
              by_cases h3 : (x == ("tuple" : Str)) = true
              · rw [if_pos h3] at hs
                have e := eq_of_beq h3
                subst e
                exact ofRg_ok c K (b := true) rfl g1 g2 hs
              · rw [if_neg h3] at hs
                by_cases h4 : (x == ("list" : Str)) = true
                · rw [if_pos h4] at hs
                  have e := eq_of_beq h4
                  subst e
                  exact ofRg_ok c K (b := false) rfl g1 g2 hs
                · rw [if_neg h4] at hs; cases hs
        · exact bi_ok c K hg h
    · cases h
  · exact met_ok c K h
  · cases h
theorem slc_ok (c : CtxOk X F W cf) (K : TrOk T) {a : Expr} {lo hi st : Option Expr} {p2 pos : Pos} {f : M Sl} (h : slcOf T cf a lo hi st = some f) : PE X (.Subscript a (.Slice lo hi st p2) pos) (tE F W f) := by
  have asInt : ∀ {e : Expr} {g : M Sl}, T.e cf e = some g → PE X e (tV F W (eInt g)) := fun {e g} h => PE.frz (eInt_ok (K.e X F W cf e g c h))
  unfold slcOf at h
  split at h
  · cases h
  rename_i o1 h1
  obtain ⟨a1, a2⟩ := opd_ok c K h1
  split at h
  · cases h
    exact de_cut00 c.K a1 a2
  · rename_i b
    obtain ⟨o2, h2, rfl⟩ := map_some h
    obtain ⟨b1, b2⟩ := opd_ok c K h2
    exact de_cut10 c.K a1 b1 (bors_cons a2 b2)
  · rename_i b
    obtain ⟨o2, h2, rfl⟩ := map_some h
    obtain ⟨b1, b2⟩ := opd_ok c K h2
    exact de_cut01 c.K a1 b1 (bors_cons a2 b2)
  · split at h
    · rename_i f2 f3 h2 h3
      cases h
      exact de_cut11 c.K a1 (asInt h2) (asInt h3) a2
    · cases h
  · obtain ⟨f2, h2, rfl⟩ := map_some h
    exact de_step01 c.K a1 (asInt h2) a2
  · split at h
    · rename_i f2 f3 h2 h3
      cases h
      exact de_step11 c.K a1 (asInt h2) (asInt h3) a2
    · cases h
  · cases h
theorem nbeh {op : CmpOp} {e : Expr} (h : isSet e = false) : behindInMarks op e = false := by
  cases e <;> first | rfl | cases h
theorem cmpE_ok (c : CtxOk X F W cf) (K : TrOk T) {a : Expr} {os : List CmpOp} {es : List Expr} {pos : Pos} {f : M Sl} (h : cmpE T cf a os es = some f) : PE X (.Compare a os es pos) (tE F W f) ∧ PT X (.Compare a os es pos) (tT F W (tB1 f)) := by
  unfold cmpE at h
  split at h
  · rename_i op b
    cases hs : isSet b with
    | true => rw [hs] at h; cases h
    | false =>
      rw [hs] at h
      simp only [Bool.false_eq_true, if_false] at h
      split at h
      · rename_i g o1 o2 h1 h2 h3
        cases h
        obtain ⟨a1, a2⟩ := opd_ok c K h2
        obtain ⟨b1, b2⟩ := opd_ok c K h3
        have og := cmpG_ok c.un h1
        have e1 := pe_cmpR (pos := pos) og a1 b1 (nbeh hs)
        have conv : ∀ σ H Q, tE F W (eN (gg2 g) [o1, o2]) σ H Q → tOp (rG2 X.K g) (tO F W o1) (tO F W o2) σ H Q := fun σ H Q q => by
          refine tO_mono o1 σ H _ _ (fun x H1 q1 => tO_mono o2 σ H1 _ _ (fun y H2 q2 => ?_) q1) (eN_run (bors_cons a2 b2) q)
          obtain ⟨x', y', e, q3⟩ := rG.two q2
          cases e
          rw [c.K] at q3
          exact q3
        refine ⟨e1.imp conv, ?_⟩
        exact dt_b1 (pt_cmpR (pos := pos) og a1 b1 (nbeh hs)) conv
      · cases h
  · rename_i op op' b d
    split at h
    · rename_i f1 g1 o1 o2 o3 h1 h2 h3 h4 h5
      cases h
      obtain ⟨a1, a2⟩ := opd_ok c K h3
      obtain ⟨b1, b2⟩ := opd_ok c K h4
      obtain ⟨d1, d2⟩ := opd_ok c K h5
      exact ⟨de_chain h1 h2 a1 b1 d1 a2 b2 d2, dt_chain h1 h2 a1 b1 d1 a2 b2 d2⟩
    · cases h
  · cases h
theorem plainI_ok {b : Expr} (h : plainI b = true) : PlainIx b := by
  intro o i
  cases b <;> first | rfl | cases h
theorem stE_ok (c : CtxOk X F W cf) (K : TrOk T) {ex : Expr} {f : M Sl} (h : stE T cf ex = some f) : PE X ex (tE F W f) := by
  unfold stE at h
  split at h
  · cases h; exact de_c pe_int fun B => .int _
  · cases h; exact de_c pe_bl fun B => .bl _
  · cases h; exact de_c pe_non fun B => .non
  · cases h; exact de_c pe_str fun B => .str _
  · rename_i x p
    split at h
    · rename_i i hs
      cases h
      obtain ⟨a, b, _⟩ := slot_ok c (pos := p) hs
      exact de_var a b
    · split at h
      · rename_i d hg
        cases h
        obtain ⟨g1, g3, g4, v, u, m1, m2, m3⟩ := glb_ok c hg
        exact de_c (pe_glob g1 m1 m2 g3) fun B => by rw [c.K]; exact m3 B
      · cases h
  · obtain ⟨os, h1, rfl⟩ := map_some h
    obtain ⟨a1, a2, a3, a4, a5⟩ := vls_ok c K h1
    exact de_tup a1 a2 a5
  · obtain ⟨os, h1, rfl⟩ := map_some h
    obtain ⟨a1, a2, a3, a4, a5⟩ := vls_ok c K h1
    exact de_lst a1 a2 a5
  · rename_i pos
    cases h
    split
    · exact de_newT
    · exact de_newK
  · rename_i x p b j p2 pos
    obtain ⟨i, h1, rfl⟩ := map_some h
    obtain ⟨v1, v2, v3⟩ := slot_ok c (pos := p) h1
    exact de_disp1 c.K (by have := c.un; omega) v1 v2
  · split at h
    · rename_i g o1 o2 h1 h2 h3
      cases h
      obtain ⟨a1, a2⟩ := opd_ok c K h2
      obtain ⟨b1, b2⟩ := opd_ok c K h3
      exact de_2 (pe_op (binG_ok h1) a1 b1) (fun x y H Q q => by rw [c.K] at q; exact q) (bors_cons a2 b2)
    · cases h
  · obtain ⟨o, h1, rfl⟩ := map_some h
    obtain ⟨a1, a2⟩ := opd_ok c K h1
    exact de_1 (pe_un og_neg a1) (fun x H Q q => by rw [c.K] at q; exact q) a2
  · obtain ⟨o, h1, rfl⟩ := map_some h
    obtain ⟨a1, a2⟩ := opd_ok c K h1
    exact eNot_ok c a1 a2
  · exact boolE_ok c K h
  · split at h
    · rename_i fc f1 f2 h1 h2 h3
      cases h
      exact de_if (K.t X F W cf _ _ c h1) (K.e X F W cf _ _ c h2) (K.e X F W cf _ _ c h3)
    · cases h
  · exact (cmpE_ok c K h).1
  · exact slc_ok c K h
  · obtain ⟨hp, h⟩ := ifN h
    split at h
    · rename_i o1 o2 h2 h3
      cases h
      obtain ⟨a1, a2⟩ := opd_ok c K h2
      obtain ⟨b1, b2⟩ := opd_ok c K h3
      exact de_2 (pe_ix (ig_ix (by have := c.un; omega)) a1 b1 (plainI_ok hp)) (fun x y H Q q => by rw [c.K] at q; exact q) (bors_cons a2 b2)
    · cases h
  · exact call_ok c K h
  · exact comp_ok c K h
  · cases h
theorem stT_ok (c : CtxOk X F W cf) (K : TrOk T) {ex : Expr} {f : M Bool} (h : stT T cf ex = some f) : PT X ex (tT F W f) := by
  unfold stT at h
  split at h
  · obtain ⟨g, h1, rfl⟩ := map_some h
    exact dt_not (K.t X F W cf _ _ c h1)
  · exact (boolT_ok c K h).pt
  · obtain ⟨g, h1, rfl⟩ := map_some h
    exact (cmpE_ok c K h1).2
  · obtain ⟨hp, h⟩ := ifN h
    obtain ⟨o, h1, rfl⟩ := map_some h
    obtain ⟨a1, a2⟩ := opd_ok c K h1
    exact dt_val c.K a2 a1 fun whole => by cases ex <;> first | rfl | cases hp
end
end DL

end
section
set_option maxRecDepth 100000
set_option maxHeartbeats 2000000
/-! DT6: the step of the translation: statements; the translation by fuel. -/
namespace DL
open PySem PySem.Spec PyProof.Rows L2

def bkF (sc : Scope) : Bool := (if sc.kind.isAnnotationScope then ScopeKind.function else sc.kind) == .function
def parNames (sc : Scope) (ts : List Expr) : List Str := ts.filterMap fun
    | .Name id pos => if sc.names.lookup id == some .local && pos.line == (ts.head?.map (·.pos.line)).getD 0 then some id else none
    | _ => none
def parOk (sc : Scope) (ts vs : List Expr) : Bool := (ts.length == 2 || ts.length == 3) && vs.length == ts.length && bkF sc && vs.all plainE && (parNames sc ts).length == ts.length && (parNames sc ts).eraseDups.length == (parNames sc ts).length && !vs.all (foldedForSure 8) && !vs.all (constantsAlone 8)
def exs (T : Tr) (cf : Cf) : List Expr → Option (List (M Sl))
  | [] => some []
  | e :: es => if plainE e then (match T.e cf e, exs T cf es with
    | some f, some fs => some (f :: fs)
    | _, _ => none) else none
def isComp : Expr → Bool
  | .ListComp _ _ _ _ => true
  | .SetComp _ _ _ _ => true
  | .DictComp _ _ _ _ _ => true
  | _ => false
/-- a comprehension set to a name, with its own variables stored -/
def swB (sc scope : Scope) (x : Str) (px pos : Pos) : Bool := bkF sc && sc.names.lookup x == some .local && px.line == pos.line && !(scope.names.any fun (n, k) => n == x && (k == .local || k == .cell))
def sBad : M Fl := fun _ => .bad
def wF : Nat := 1000000
def stAsg (T : Tr) (cf : Cf) (t e : Expr) : Option (M Fl) := match t with
  | .Name x _ => if cf.asg x then (match ixOf cf.N x, T.e cf e with
    | some i, some f => some (sAsg i f)
    | _, _ => none) else none
  | .Tuple ts k pt => (match e with
    | .Tuple vs k2 p2 => if parOk cf.sc ts vs then (match (parNames cf.sc ts).mapM (ixOf cf.N), exs T cf vs with
        | some is, some fs => some (sPar is fs)
        | _, _ => none)
      else if !(ts.length == 2 || ts.length == 3) || vs.length != ts.length then (match stTg 4 cf (.Tuple ts k pt), T.e cf (.Tuple vs k2 p2) with
        | some t, some f => some (sUnp t f)
        | _, _ => none)
      else none
    | e => (match stTg 4 cf (.Tuple ts k pt), T.e cf e with
      | some t, some f => some (sUnp t f)
      | _, _ => none))
  | .Subscript (.Name x _) b _ => (match b with
    | .Slice _ _ _ _ => none
    | b => (match slot cf x, T.e cf e, T.e cf b with
      | some i, some fv, some fk => some (sStore i fv fk)
      | _, _, _ => none))
  | _ => none
def stSs (T : Tr) (cf : Cf) : List Stmt → Option (M Fl)
  | [] => some sNx
  | [st] => T.s cf st
  | st :: s2 :: rest => (match T.s cf st, stSs T cf (s2 :: rest) with
    | some f, some g => some (sSeq f g)
    | _, _ => none)
def retOf (T : Tr) (cf : Cf) (e : Expr) : Option (M Fl) := match (match e with
    | .Name x _ => slot cf x
    | _ => none) with
  | some i => some (sRetV i)
  | none => (T.e cf e).map sRet
def stS (T : Tr) (cf : Cf) : Stmt → Option (M Fl)
  | .Expr e _ => if isComp e then none else (T.e cf e).map sExpr
  | .Assign [t] e _ => stAsg T cf t e
  | .Return none _ => some (sRet (eC .non))
  | .Return (some e) _ => retOf T cf e
  | .Pass _ => some sNx
  | .Break _ => some sBk
  | .Continue _ => some sCt
  | .If c a b _ => (match T.t cf c, stSs T cf a, stSs T cf b with
    | some fc, some f, some g => some (sIf fc f g)
    | _, _, _ => none)
  | .For tg it b [] _ => (match stSrc T cf tg it, stTg 4 cf tg, stSs T cf b with
    | some src, some t, some f => some (sFor src t f)
    | _, _, _ => none)
  | .While c b [] _ => (match T.t cf c, stSs T cf b with
    | some fc, some f => some (whileM fc f wF)
    | _, _ => none)
  | .Raise _ _ _ => some sBad
  | _ => none
section
variable {X : Cx} {F : Fr} {W : WX} {cf : Cf} {T : Tr}
theorem kind_ok (c : CtxOk X F W cf) (x : Str) : X.env.kindOf x = cf.sc.names.lookup x := by
  unfold Env.kindOf
  rw [c.sc]
theorem bk_ok (c : CtxOk X F W cf) : (X.env.blockKind == .function) = bkF cf.sc := by
  unfold Env.blockKind bkF
  rw [c.sc]
theorem noComp {e : Expr} {t : Option Expr} {n : Nat} {env : Env} (h : isComp e = false) : swapsWith e t n env = pure false := by
  cases e <;> first | rfl | cases h
theorem swapped_ok (c : CtxOk X F W cf) {ts vs : List Expr} {kt k2 : Nat} {pt p2 : Pos} (h : parOk cf.sc ts vs = true) : swappedStores [.Tuple ts kt pt] (.Tuple vs k2 p2) X.env = pure (some (parNames cf.sc ts)) := by
  unfold parOk at h
  simp only [Bool.and_eq_true, Bool.or_eq_true, beq_iff_eq, Bool.not_eq_true'] at h
  obtain ⟨⟨⟨⟨⟨⟨⟨h1, h2⟩, h3⟩, h4⟩, h5⟩, h6⟩, h7⟩, h8⟩ := h
  have hb : (X.env.blockKind != .function) = false := by
    have := bk_ok c
    rw [h3] at this
    simp only [bne, this]
    rfl
  have c1 : (!(ts.length == 2 || ts.length == 3) || vs.length != ts.length || X.env.blockKind != .function) = false := by
    rw [hb]
    rcases h1 with h1 | h1 <;> simp [h1, h2]
  have c2 : (vs.any fun | .Starred .. => true | _ => false) = false := by
    rw [List.any_eq_false]
    intro e he
    have := List.all_eq_true.mp h4 e he
    cases e <;> first | exact Bool.false_ne_true | exact absurd this (by decide) | (exact absurd this (by simp [plainE]))
  have e5 : ¬ (((parNames cf.sc ts).length != ts.length || (parNames cf.sc ts).eraseDups.length != (parNames cf.sc ts).length) = true) := by simp [h5, h6]
  have f1 : ¬ ((!(ts.length == 2 || ts.length == 3) || vs.length != ts.length || X.env.blockKind != .function) = true) := by rw [c1]; exact Bool.false_ne_true
  have f2 : ¬ ((vs.any fun | .Starred .. => true | _ => false) = true) := by rw [c2]; exact Bool.false_ne_true
  have f7 : ¬ (vs.all (foldedForSure 8) = true) := by rw [h7]; exact Bool.false_ne_true
  have f8 : ¬ (vs.all (constantsAlone 8) = true) := by rw [h8]; exact Bool.false_ne_true
  unfold swappedStores
  refine (if_neg f1).trans ?_
  refine (if_neg f2).trans ?_
  dsimp only
  generalize hn : List.filterMap _ ts = names
  have en : names = parNames cf.sc ts := by
    rw [← hn]
    unfold parNames
    congr 1
    funext e
    cases e <;> first | rfl | simp only [kind_ok c]
  subst en
  refine (if_neg e5).trans ?_
  refine (if_neg f7).trans ?_
  exact if_neg f8
theorem swapped_no {ts vs : List Expr} {kt k2 : Nat} {pt p2 : Pos} {env : Env} (h : (!(ts.length == 2 || ts.length == 3) || vs.length != ts.length) = true) : swappedStores [.Tuple ts kt pt] (.Tuple vs k2 p2) env = pure none := by
  unfold swappedStores
  simp only [h, Bool.true_or, if_true]
theorem exs_ok (c : CtxOk X F W cf) (K : TrOk T) : ∀ {es : List Expr} {fs : List (M Sl)}, exs T cf es = some fs → PA X es (chainE F W fs) ∧ fs.length = es.length
  | [], fs, h => by cases h; exact ⟨pa_nil, rfl⟩
  | e :: es, fs, h => by
    unfold exs at h
    obtain ⟨hp, h⟩ := ifN h
    split at h
    · rename_i f fs' h1 h2
      cases h
      obtain ⟨a, b⟩ := exs_ok c K h2
      exact ⟨pa_cons (K.e X F W cf e f c h1) a (star_one hp), by simp [b]⟩
    · cases h
theorem mapM_get {α β : Type} {g : α → Option β} : ∀ {xs : List α} {ys : List β}, xs.mapM g = some ys → ys.length = xs.length ∧ ∀ (k : Nat) (x : α), xs[k]? = some x → ∃ y, ys[k]? = some y ∧ g x = some y
  | [], ys, h => by rw [List.mapM_nil] at h; cases h; exact ⟨rfl, fun k x e => by simp at e⟩
  | a :: as, ys, h => by
    rw [List.mapM_cons] at h
    cases h1 : g a with
    | none => rw [h1] at h; cases h
    | some b =>
      cases h2 : as.mapM g with
      | none => simp [h1, h2] at h
      | some bs =>
        simp [h1, h2] at h
        subst h
        obtain ⟨l, q⟩ := mapM_get h2
        refine ⟨by simp [l], fun k x e => ?_⟩
        cases k with
        | zero => simp at e; subst e; exact ⟨b, rfl, h1⟩
        | succ k => simp at e; obtain ⟨y, y1, y2⟩ := q k x e; exact ⟨y, by simpa using y1, y2⟩
theorem parNames_local {sc : Scope} {ts : List Expr} {x : Str} (h : x ∈ parNames sc ts) : sc.names.lookup x = some .local := by
  obtain ⟨e, _, he⟩ := List.mem_filterMap.mp h
  cases e with
  | Name id pos =>
    simp only at he
    split at he
    · rename_i q
      cases he
      rw [Bool.and_eq_true] at q
      exact eq_of_beq q.1
    · cases he
  | _ => cases he
theorem par_ok (c : CtxOk X F W cf) (K : TrOk T) {ts vs : List Expr} {kt k2 : Nat} {pt p2 pos : Pos} {is : List Nat} {fs : List (M Sl)} (h : parOk cf.sc ts vs = true) (hi : (parNames cf.sc ts).mapM (ixOf cf.N) = some is) (hf : exs T cf vs = some fs) : PS X (.Assign [.Tuple ts kt pt] (.Tuple vs k2 p2) pos) (tS F W (sPar is fs)) := by
  obtain ⟨a1, a2⟩ := exs_ok c K hf
  obtain ⟨m1, m2⟩ := mapM_get hi
  have hp := h
  unfold parOk at hp
  simp only [Bool.and_eq_true, Bool.or_eq_true, beq_iff_eq] at hp
  obtain ⟨⟨⟨⟨⟨⟨⟨h1, h2⟩, h3⟩, h4⟩, h5⟩, h6⟩, h7⟩, h8⟩ := hp
  have lf : fs.length = (parNames cf.sc ts).length := by rw [a2, h2, h5]
  refine ds_par (by rw [lf, m1]) (fun i hi' => ?_) ((ps_parN c.calm c.nd m1.symm (fun k x hk => ?_) (by rw [h5]; omega) a1 (swapped_ok c h) (show swapsWith (.Tuple vs k2 p2) (some (.Tuple ts kt pt)) pos.line X.env = pure false from noComp rfl)).imp fun D σ H q => ?_)
  · obtain ⟨k, hk⟩ := List.mem_iff_getElem?.mp hi'
    have hl : k < (parNames cf.sc ts).length := by rw [← m1]; exact (List.getElem?_eq_some_iff.mp hk).1
    obtain ⟨y, y1, y2⟩ := m2 k _ (List.getElem?_eq_getElem hl)
    rw [hk] at y1
    cases y1
    rw [c.n]
    exact (List.getElem?_eq_some_iff.mp (ixOf_ok y2)).1
  · obtain ⟨y, y1, y2⟩ := m2 k x hk
    refine ⟨y, y1, by rw [c.N]; exact ixOf_ok y2, ?_⟩
    rw [c.sc]
    exact parNames_local (List.mem_iff_getElem?.mpr ⟨k, hk⟩)
  · rw [← lf]; exact q
theorem asg_name (c : CtxOk X F W cf) (K : TrOk T) {x : Str} {e : Expr} {i : Nat} {f : M Sl} {px pos : Pos} (ha : cf.asg x = true) (hi : ixOf cf.N x = some i) (h : T.e cf e = some f) (hc : isComp e = false) : PS X (.Assign [.Name x px] e pos) (tS F W (sAsg i f)) := by
  obtain ⟨l1, l2⟩ := c.asg x ha
  exact ds_set (K.e X F W cf e f c h) c.nd (by rw [c.N]; exact ixOf_ok hi) l1 (noComp hc) l2
theorem asg_comp (c : CtxOk X F W cf) (K : TrOk T) {x : Str} {ee : Expr} {gens : List Comprehension} {scope : Scope} {i : Nat} {f : M Sl} {px cpos pos : Pos} (ha : cf.asg x = true) (hi : ixOf cf.N x = some i) (h : stComp T cf ee gens scope = some f) : PS X (.Assign [.Name x px] (.ListComp ee gens scope cpos) pos) (tS F W (sAsg i f)) := by
  obtain ⟨l1, l2⟩ := c.asg x ha
  have hx : X.N[i]? = some x := by rw [c.N]; exact ixOf_ok hi
  have sw : swapsWith (.ListComp ee gens scope cpos) (some (.Name x px)) pos.line X.env = pure (swB cf.sc scope x px cpos) := by
    unfold swB
    rw [← bk_ok c, ← kind_ok c]
    rfl
  cases hs : swB cf.sc scope x px cpos with
  | false =>
    rw [hs] at sw
    exact ds_set (comp_ok c K h) c.nd hx l1 sw l2
  | true =>
    rw [hs] at sw
    obtain ⟨tg, it, ifs, src, t, tst, elt, rfl, rfl, p1, p2, p3, p4, p5, p6, p7, p8⟩ := comp_parts c K h
    have hl : X.env.scope.names.lookup x = some .local := by
      unfold swB at hs
      simp only [Bool.and_eq_true] at hs
      rw [c.sc]
      exact eq_of_beq hs.1.1.2
    exact ds_comp c.calm c.nd hx hl sw p1 p2 p3 p4 p5 p6 p7 p8
theorem bad_ok {st : Stmt} : PS X st (tS F W sBad) := ps_never.imp fun D σ H ⟨B, e, n, S, o⟩ => o.elim
theorem sSs_ok (c : CtxOk X F W cf) (K : TrOk T) : ∀ {ss : List Stmt} {f : M Fl}, stSs T cf ss = some f → PSs X ss (tS F W f)
  | [], f, h => by cases h; exact dss_nil
  | [st], f, h => dss_one (K.s X F W cf st f c h)
  | st :: s2 :: rest, f, h => by
    unfold stSs at h
    split at h
    · rename_i f1 f2 h1 h2
      cases h
      exact dss_cons (K.s X F W cf st f1 c h1) (sSs_ok c K h2)
    · cases h
theorem ret_ok (c : CtxOk X F W cf) (K : TrOk T) {e : Expr} {f : M Fl} {pos : Pos} (h : retOf T cf e = some f) : PS X (.Return (some e) pos) (tS F W f) := by
  unfold retOf at h
  split at h
  · rename_i i hi
    cases h
    cases e with
    | Name x p => exact ds_retV (slot_ok c (pos := p) hi).1
    | _ => cases hi
  · obtain ⟨g, h1, rfl⟩ := map_some h
    exact ds_ret (K.e X F W cf e g c h1)
end
/-- a step whose comprehensions, set to a name, are the translation's own -/
structure TrOk2 (T : Tr) : Prop where
  ok : TrOk T
  comp : ∀ (cf : Cf) (ee : Expr) (gens : List Comprehension) (scope : Scope) (pos : Pos) (f : M Sl), T.e cf (.ListComp ee gens scope pos) = some f → ∃ T', TrOk T' ∧ stComp T' cf ee gens scope = some f
  noc : ∀ (cf : Cf) (e : Expr) (f : M Sl), T.e cf e = some f → isComp e = true → ∃ ee gens scope pos, e = .ListComp ee gens scope pos
section
variable {X : Cx} {F : Fr} {W : WX} {cf : Cf} {T : Tr}
theorem asg_ok (c : CtxOk X F W cf) (K : TrOk2 T) {t e : Expr} {pos : Pos} {f : M Fl} (h : stAsg T cf t e = some f) : PS X (.Assign [t] e pos) (tS F W f) := by
  have unp : ∀ {ts : List Expr} {k : Nat} {pt : Pos} {tg : Tg} {g : M Sl}, stTg 4 cf (.Tuple ts k pt) = some tg → T.e cf e = some g → swappedStores [.Tuple ts k pt] e X.env = pure none → PS X (.Assign [.Tuple ts k pt] e pos) (tS F W (sUnp tg g)) := fun {ts k pt tg g} h1 h2 hw => by
    refine ds_unp (PE.frz (K.ok.e X F W cf e g c h2)) (tg_ok c h1) ?_ hw rfl
    show swapsWith e (some (.Tuple ts k pt)) pos.line X.env = pure false
    cases e <;> rfl
  unfold stAsg at h
  split at h
  · rename_i x px
    obtain ⟨ha, h⟩ := ifN h
    split at h
    · rename_i i g h1 h2
      cases h
      cases hc : isComp e with
      | false => exact asg_name c K.ok ha h1 h2 hc
      | true =>
        obtain ⟨ee, gens, scope, cpos, rfl⟩ := K.noc cf e g h2 hc
        obtain ⟨T', K', h3⟩ := K.comp cf ee gens scope cpos g h2
        exact asg_comp c K' ha h1 h3
    · cases h
  · rename_i ts k pt
    split at h
    · rename_i vs k2 p2
      split at h
      · rename_i hp
        split at h
        · rename_i is fs h1 h2
          cases h
          exact par_ok c K.ok hp h1 h2
        · cases h
      · split at h
        · rename_i hq
          split at h
          · rename_i tg g h1 h2
            cases h
            exact unp h1 h2 (swapped_no hq)
          · cases h
        · cases h
    · rename_i hne
      split at h
      · rename_i tg g h1 h2
        cases h
        refine unp h1 h2 ?_
        cases e with
        | Tuple vs k2 p2 => exact absurd rfl (hne vs k2 p2)
        | _ => rfl
      · cases h
  · rename_i x p b sp
    split at h
    · cases h
    · rename_i hns
      split at h
      · rename_i i fv fk h1 h2 h3
        cases h
        obtain ⟨v1, v2, v3⟩ := slot_ok c (pos := p) h1
        refine ds_store (by have := c.un; omega) c.K v2 (PE.frz (K.ok.e X F W cf e fv c h2)) v1 (PE.frz (K.ok.e X F W cf b fk c h3)) ?_ ?_ (fun v => by cases b <;> first | rfl | exact absurd rfl (hns _ _ _ _)) rfl
        · show swapsWith e (some (.Subscript (.Name x p) b sp)) pos.line X.env = pure false
          cases e <;> rfl
        · cases e <;> rfl
      · cases h
  · cases h
theorem stS_ok (c : CtxOk X F W cf) (K : TrOk2 T) {st : Stmt} {f : M Fl} (h : stS T cf st = some f) : PS X st (tS F W f) := by
  unfold stS at h
  split at h
  · rename_i e p
    cases hc : isComp e with
    | true => rw [hc] at h; cases h
    | false =>
      rw [hc] at h
      obtain ⟨g, h1, rfl⟩ := map_some h
      exact ds_expr (K.ok.e X F W cf e g c h1) (noComp hc)
  · exact asg_ok c K h
  · cases h; exact ds_retN
  · exact ret_ok c K.ok h
  · cases h; exact ds_pass
  · cases h; exact ds_break
  · cases h; exact ds_continue
  · split at h
    · rename_i fc f1 f2 h1 h2 h3
      cases h
      exact ds_if (K.ok.t X F W cf _ _ c h1) (sSs_ok c K.ok h2) (sSs_ok c K.ok h3)
    · cases h
  · split at h
    · rename_i src t g h1 h2 h3
      cases h
      obtain ⟨p1, p2⟩ := src_ok c K.ok h1
      exact ds_for c.ps c.calm p1 (tg_ok c h2) (sSs_ok c K.ok h3) (fold_ok p2)
    · cases h
  · split at h
    · rename_i fc g h1 h2
      cases h
      exact ds_while c.ps (K.ok.t X F W cf _ _ c h1) (sSs_ok c K.ok h2)
    · cases h
  · cases h; exact bad_ok
  · cases h
end
/-- the translation by fuel -/
def tr : Nat → Tr
  | 0 => ⟨fun _ _ => none, fun _ _ => none, fun _ _ => none⟩
  | n + 1 => ⟨stE (tr n), stT (tr n), stS (tr n)⟩
theorem stE_noc {T : Tr} {cf : Cf} {e : Expr} {f : M Sl} (h : stE T cf e = some f) (hc : isComp e = true) : ∃ ee gens scope pos, e = .ListComp ee gens scope pos := by
  cases e with
  | ListComp ee gens scope pos => exact ⟨_, _, _, _, rfl⟩
  | SetComp _ _ _ _ => cases h
  | DictComp _ _ _ _ _ => cases h
  | _ => cases hc
theorem tr_ok : ∀ n, TrOk2 (tr n)
  | 0 => ⟨⟨fun X F W cf ex f c h => (nomatch (show (none : Option (M Sl)) = some f from h)), fun X F W cf ex f c h => (nomatch (show (none : Option (M Bool)) = some f from h)), fun X F W cf st f c h => (nomatch (show (none : Option (M Fl)) = some f from h))⟩,
      fun cf ee gens scope pos f h => (nomatch (show (none : Option (M Sl)) = some f from h)), fun cf e f h _ => nomatch (show (none : Option (M Sl)) = some f from h)⟩
  | n + 1 => by
    have K := tr_ok n
    exact ⟨⟨fun X F W cf ex f c h => stE_ok c K.ok h, fun X F W cf ex f c h => stT_ok c K.ok h, fun X F W cf st f c h => stS_ok c K h⟩, fun cf ee gens scope pos f h => ⟨tr n, K.ok, h⟩, fun cf e f h hc => stE_noc h hc⟩
theorem tr_body {X : Cx} {F : Fr} {W : WX} {cf : Cf} {n : Nat} {ss : List Stmt} {f : M Fl} (c : CtxOk X F W cf) (h : stSs (tr n) cf ss = some f) : PSs X ss (tS F W f) := sSs_ok c (tr_ok n).ok h
end DL

end
section
set_option maxRecDepth 100000
set_option maxHeartbeats 2000000
/-! DT7: a def by the translation of its body. -/
namespace DL
open PySem PySem.Spec PyProof.Rows L2

/-- what is known of the module's names, for defs of level k at most -/
def GtOk (P : Program) (w : World) (K : PySem.W.Frag) (mg : Str → Option Value) (base : Heap) (k : Nat) (gt : List (Str × Gb)) : Prop := ∀ x g, gt.lookup x = some g → match g with
  | .fn g => (∀ j, g.mi = some j → j < g.n) ∧ ∃ f, FnG P w K mg base k f g.n (spM K mg g.n g.mi g.m) ∧ mg x = some (.ref f) ∧ PySem.W.keepIn K (.ref f) = true
  | .con d => ∃ v u, mg x = some u ∧ RelV v u ∧ ∀ B, Rep K B v d
  | .bi => mg x = none
section
variable {P : Program} {w : World} {K : PySem.W.Frag} {mg : Str → Option Value} {base : Heap}
theorem GtOk.nil {k : Nat} : GtOk P w K mg base k [] := fun x g h => by cases h
theorem gt_cons {k : Nat} {gt : List (Str × Gb)} {y : Str} {g0 : Gb} (h0 : match g0 with
  | .fn g => (∀ j, g.mi = some j → j < g.n) ∧ ∃ f, FnG P w K mg base k f g.n (spM K mg g.n g.mi g.m) ∧ mg y = some (.ref f) ∧ PySem.W.keepIn K (.ref f) = true
  | .con d => ∃ v u, mg y = some u ∧ RelV v u ∧ ∀ B, Rep K B v d
  | .bi => mg y = none) (h : GtOk P w K mg base k gt) : GtOk P w K mg base k ((y, g0) :: gt) := fun x g e => by
  rw [List.lookup_cons] at e
  cases q : x == y with
  | true =>
    rw [q] at e
    have q := eq_of_beq q
    subst q
    cases e
    exact h0
  | false => rw [q] at e; exact h x g e
theorem GtOk.mono {j k : Nat} {gt : List (Str × Gb)} (h : GtOk P w K mg base j gt) (l : j ≤ k) : GtOk P w K mg base k gt := fun x g e => by
  have q := h x g e
  cases g with
  | fn g => obtain ⟨a, f, b, c⟩ := q; exact ⟨a, f, b.mono l, c⟩
  | con d => exact q
  | bi => exact q
theorem gb_ok {X : Cx} {k : Nat} {gt : List (Str × Gb)} (h : GtOk X.prog X.w X.K X.mg X.base k gt) (r : Room k X.A) : ∀ x g, gt.lookup x = some g → GbOk X x g := fun x g e => by
  have q := h x g e
  cases g with
  | fn g => obtain ⟨a, f, b, c, d⟩ := q; exact ⟨a, k, f, b, c, d, r⟩
  | con d => exact q
  | bi => exact q
/-- THE RULE for a def -/
theorem def_tr {x qual : Str} {st : Stmt} {f : Addr} {fd : FuncData} {N ps : List Str} {k n : Nat} {mi : Option Nat} {g : M Fl} {gt : List (Str × Gb)} {tk : List Nat} (Fn : Fun K x qual st f fd) (S : FnScope N ps (defScope st)) (hn : ps.length ≤ N.length) (hb : Binds K fd ps []) (hg : GtOk P w K mg base k gt)
    (ht : stSs (tr n) ⟨N, defScope st, locB (defScope st), gt, tk⟩ (defBody st) = some g) : FnG P w K mg base (k + 1) f ps.length (spM K mg ps.length mi (bodyM mi N.length g)) := by
  refine def_ok Fn S hn hb fun cdv A outer s H E H0 B0 mp room gd => tr_body (n := n) ?_ ht
  exact {
    N := rfl
    nd := S.nd
    sc := rfl
    asg := fun y h => by
      have h : locB (defScope st) y = true := h
      unfold locB at h
      split at h
      · rename_i q; exact ⟨.inl q, .inl rfl⟩
      · rename_i q; exact ⟨.inr q, .inl rfl⟩
      · cases h
    calm := rfl
    K := rfl
    mg := rfl
    n := rfl
    gt := gb_ok hg room
    gd := gd
    rm := room.mono (Nat.zero_le _)
    tk := takes_of rfl rfl rfl rfl
    ps := passes_of (K := fun e s'' => L2.CX P w outer H s E e s'') rfl }
end
end DL

end
section
set_option maxRecDepth 100000
set_option maxHeartbeats 2000000
/-! DM1: evaluating mirrors. -/
namespace DL
open PySem PySem.Spec PyProof.Rows L2

def finM (mi : Option Nat) (r : R Fl) : RF := match r with
  | .ok .nx e => .ok (.sh .non) (outOf mi e)
  | .ok (.rt s) e => .ok s (outOf mi e)
  | .exn x _ => if mi = none then .exn x else .bad
  | _ => .bad
theorem bodyM_eq (mi : Option Nat) (n : Nat) (f : M Fl) (ds : List D) : bodyM mi n f ds = finM mi (f (start0 mi n ds)) := rfl
theorem finM_nx {mi : Option Nat} {e : Ev} : finM mi (.ok .nx e) = .ok (.sh .non) (outOf mi e) := rfl
theorem finM_rt {mi : Option Nat} {s : Sl} {e : Ev} : finM mi (.ok (.rt s) e) = .ok s (outOf mi e) := rfl
theorem finM_ite {mi : Option Nat} {c : Prop} [Decidable c] {a b : R Fl} : finM mi (if c then a else b) = if c then finM mi a else finM mi b := by split <;> rfl
def seqM (r : R Fl) (g : M Fl) : R Fl := match r with
  | .ok .nx e' => g e'
  | r => r
theorem sSeq_eq (f g : M Fl) (e : Ev) : sSeq f g e = seqM (f e) g := rfl
theorem seqM_nx {g : M Fl} {e : Ev} : seqM (.ok .nx e) g = g e := rfl
theorem seqM_rt {g : M Fl} {s : Sl} {e : Ev} : seqM (.ok (.rt s) e) g = .ok (.rt s) e := rfl
theorem seqM_bk {g : M Fl} {e : Ev} : seqM (.ok .bk e) g = .ok .bk e := rfl
theorem seqM_ct {g : M Fl} {e : Ev} : seqM (.ok .ct e) g = .ok .ct e := rfl
theorem seqM_bad {g : M Fl} : seqM .bad g = .bad := rfl
theorem seqM_ite {c : Prop} [Decidable c] {a b : R Fl} {g : M Fl} : seqM (if c then a else b) g = if c then seqM a g else seqM b g := by split <;> rfl
theorem bd_ite {α β : Type} {c : Prop} [Decidable c] {a b : R α} {k : α → Ev → R β} : bd (if c then a else b) k = if c then bd a k else bd b k := by split <;> rfl
theorem loop_nx {e : Ev} {k : M Fl} : loopM (.ok .nx e) k = k e := rfl
theorem loop_ct {e : Ev} {k : M Fl} : loopM (.ok .ct e) k = k e := rfl
theorem loop_bk {e : Ev} {k : M Fl} : loopM (.ok .bk e) k = .ok .nx e := rfl
theorem loop_rt {s : Sl} {e : Ev} {k : M Fl} : loopM (.ok (.rt s) e) k = .ok (.rt s) e := rfl
theorem loop_ite {c : Prop} [Decidable c] {a b : R Fl} {k : M Fl} : loopM (if c then a else b) k = if c then loopM a k else loopM b k := by split <;> rfl
theorem okG_sh {d : D} {e : Ev} : okG (some (.sh d)) e = .ok (.sh d) e := rfl
theorem okG_ow {d : D} {e : Ev} : okG (some (.ow d)) e = .ok (.ow d) e := rfl
theorem okG_ite {c : Prop} [Decidable c] {a b : Option Sl} {e : Ev} : okG (if c then a else b) e = if c then okG a e else okG b e := by split <;> rfl
theorem eVar_sh {i : Nat} {e : Ev} {d : D} (h : e[i]? = some (some (.sh d))) : eVar i e = .ok (.sh d) e := by unfold eVar; rw [h]
theorem eVar_ow {i : Nat} {e : Ev} {d : D} (h : e[i]? = some (some (.ow d))) : eVar i e = .ok (.sh d) (e.set i (some (.sh d))) := by unfold eVar; rw [h]
/-- a test's outcome -/
theorem tB1_sh {f : M Sl} {e e' : Ev} {b : Bool} (h : f e = .ok (.sh (.bl b)) e') : tB1 f e = .ok b e' := by unfold tB1; rw [h]; rfl

/-! ### loops -/
/-- a loop whose turns all end well: an invariant over what is left -/
theorem forM_ok {t : Tg} {body : M Fl} (I : List D → Ev → Prop) (step : ∀ d ds e, I (d :: ds) e → ∃ e1, setTg t d e = some e1 ∧ ∃ e2, (body e1 = .ok .nx e2 ∨ body e1 = .ok .ct e2) ∧ I ds e2) : ∀ (ds : List D) (e : Ev), I ds e → ∃ e', forM t body ds e = .ok .nx e' ∧ I [] e'
  | [], e, h => ⟨e, rfl, h⟩
  | d :: ds, e, h => by
    obtain ⟨e1, h1, e2, h2, h3⟩ := step d ds e h
    obtain ⟨e', h4, h5⟩ := forM_ok I step ds e2 h3
    refine ⟨e', ?_, h5⟩
    unfold forM
    rw [h1]
    show loopM (body e1) (forM t body ds) = _
    rcases h2 with h2 | h2 <;> (rw [h2]; exact h4)
theorem forM_nil {t : Tg} {body : M Fl} {e : Ev} : forM t body [] e = .ok .nx e := rfl
theorem forM_cons {t : Tg} {body : M Fl} {d : D} {ds : List D} {e e1 : Ev} (h : setTg t d e = some e1) : forM t body (d :: ds) e = loopM (body e1) (forM t body ds) := by
  show (match setTg t d e with | none => R.bad | some e1 => loopM (body e1) (forM t body ds)) = _
  rw [h]
theorem whileM_succ {c : M Bool} {body : M Fl} {m : Nat} {e : Ev} : whileM c body (m + 1) e = bd (c e) fun b e1 => if b then loopM (body e1) (whileM c body m) else .ok .nx e1 := rfl
/-- a loop by the frame: the body's outcome on what the frame stands for -/
theorem compM_nil {t : Tg} {vs : List Nat} {tst : M Bool} {elt : M Sl} {e : Ev} : compM t vs tst elt [] e = .ok () e := rfl
/-- a comprehension's turns, by a function of the item: each turn leaves the frame as it was (its own slots wiped) -/
theorem compM_fn {t : Tg} {vs : List Nat} {tst : M Bool} {elt : M Sl} (w : Ev) (p : D → Bool) (f : D → D) : ∀ (ds acc : List D),
    (∀ d ∈ ds, ∀ acc : List D, acc.length + 1 ≤ sizeLine → ∃ e1, setTg t d (w ++ [some (.ow (.lst acc))]) = some e1 ∧ ∃ e2, tst e1 = .ok (p d) e2 ∧ (p d = false → wipeC vs e2 = some (w ++ [some (.ow (.lst acc))])) ∧
      (p d = true → ∃ s e3, elt e2 = .ok s e3 ∧ s.d = f d ∧ ∃ u, e3 = u ++ [some (.ow (.lst acc))] ∧ wipeC vs (u ++ [some (.ow (.lst (acc ++ [f d])))]) = some (w ++ [some (.ow (.lst (acc ++ [f d])))]))) →
    acc.length + ds.length ≤ sizeLine → compM t vs tst elt ds (w ++ [some (.ow (.lst acc))]) = .ok () (w ++ [some (.ow (.lst (acc ++ (ds.filter p).map f)))])
  | [], acc, _, _ => by simp [compM]
  | d :: ds, acc, h, hz => by
    have hz' : acc.length + 1 ≤ sizeLine := by simp at hz; omega
    obtain ⟨e1, h1, e2, h2, h3, h4⟩ := h d List.mem_cons_self acc hz'
    show (match setTg t d (w ++ [some (.ow (.lst acc))]) with
      | none => R.bad
      | some e1 => bd (tst e1) fun b e2 => if b then bd (elt e2) fun s e3 => (match accE s.d e3 with
        | some e4 => (match wipeC vs e4 with
          | some e5 => compM t vs tst elt ds e5
          | none => .bad)
        | none => .bad)
      else (match wipeC vs e2 with
        | some e5 => compM t vs tst elt ds e5
        | none => .bad)) = _
    rw [h1]
    simp only [h2, bd_ok]
    cases hp : p d with
    | false =>
      rw [if_neg Bool.false_ne_true, h3 hp]
      show compM t vs tst elt ds (w ++ [some (.ow (.lst acc))]) = _
      rw [compM_fn w p f ds acc (fun d hd => h d (List.mem_cons_of_mem _ hd)) (by simp at hz; omega), List.filter_cons_of_neg (by simp [hp])]
    | true =>
      obtain ⟨s, e3, g1, g2, u, g3, g4⟩ := h4 hp
      rw [if_pos rfl]
      subst g3
      simp only [g1, bd_ok]
      have ga : accE s.d (u ++ [some (.ow (.lst acc))]) = some (u ++ [some (.ow (.lst (acc ++ [f d])))]) := by
        unfold accE
        rw [List.getLast?_append]
        simp [g2]
        omega
      rw [ga]
      show (match wipeC vs (u ++ [some (.ow (.lst (acc ++ [f d])))]) with | some e5 => compM t vs tst elt ds e5 | none => .bad) = _
      rw [g4]
      show compM t vs tst elt ds (w ++ [some (.ow (.lst (acc ++ [f d])))]) = _
      rw [compM_fn w p f ds (acc ++ [f d]) (fun d hd => h d (List.mem_cons_of_mem _ hd)) (by simp at hz ⊢; omega), List.filter_cons_of_pos hp]
      simp
/-- a comprehension by a function of the item -/
theorem eComp_fn {src : M (List D)} {t : Tg} {vs : List Nat} {tst : M Bool} {elt : M Sl} {e0 e1 : Ev} {ds : List D} (p : D → Bool) (f : D → D) (hs : src e0 = .ok ds e1) (hm : noMu vs e1 = true)
    (h : ∀ d ∈ ds, ∀ acc : List D, acc.length + 1 ≤ sizeLine → ∃ e2, setTg t d (wipeE e1 vs ++ [some (.ow (.lst acc))]) = some e2 ∧ ∃ e3, tst e2 = .ok (p d) e3 ∧ (p d = false → wipeC vs e3 = some (wipeE e1 vs ++ [some (.ow (.lst acc))])) ∧
      (p d = true → ∃ s e4, elt e3 = .ok s e4 ∧ s.d = f d ∧ ∃ u, e4 = u ++ [some (.ow (.lst acc))] ∧ wipeC vs (u ++ [some (.ow (.lst (acc ++ [f d])))]) = some (wipeE e1 vs ++ [some (.ow (.lst (acc ++ [f d])))])))
    (hz : ds.length ≤ sizeLine) (hm2 : noMu vs (wipeE e1 vs) = true) : eComp src t vs tst elt e0 = .ok (.ow (.lst ((ds.filter p).map f))) (restE e1 (wipeE e1 vs) vs) := by
  unfold eComp
  rw [hs, bd_ok, if_pos hm, compM_fn (wipeE e1 vs) p f ds [] h (by simpa using hz)]
  simp [noEx, bd_ok, popL, hm2]

/-- a comprehension whose turns leave the frame alone -/
theorem eComp_gen {src : M (List D)} {t : Tg} {vs : List Nat} {tst : M Bool} {elt : M Sl} {e0 e1 : Ev} {ds : List D} (p : D → Bool) (f : D → D) (g : D → Ev) (hs : src e0 = .ok ds e1) (hm : noMu vs e1 = true) (hz : ds.length ≤ sizeLine) (hm2 : noMu vs (wipeE e1 vs) = true)
    (hset : ∀ d ∈ ds, ∀ a, setTg t d (wipeE e1 vs ++ [a]) = some (g d ++ [a])) (htst : ∀ d ∈ ds, ∀ a, tst (g d ++ [a]) = .ok (p d) (g d ++ [a])) (helt : ∀ d ∈ ds, ∀ a, p d = true → ∃ s, elt (g d ++ [a]) = .ok s (g d ++ [a]) ∧ s.d = f d) (hw : ∀ d ∈ ds, ∀ a, wipeC vs (g d ++ [a]) = some (wipeE e1 vs ++ [a])) :
    eComp src t vs tst elt e0 = .ok (.ow (.lst ((ds.filter p).map f))) (restE e1 (wipeE e1 vs) vs) :=
  eComp_fn p f hs hm (fun d hd acc _ => ⟨_, hset d hd _, _, htst d hd _, fun _ => hw d hd _, fun hp => by
    obtain ⟨s, h1, h2⟩ := helt d hd (some (.ow (.lst acc))) hp
    exact ⟨s, _, h1, h2, g d, rfl, hw d hd _⟩⟩) hz hm2
theorem filter_yes {α : Type} {l : List α} : l.filter (fun _ => true) = l := by simp
def kRs : Option (Option Sl) → Option Sl
  | some (some (.sh d)) => some (.sh d)
  | _ => none
theorem v_re {e0 e : Ev} {v : Nat} {vs : List Nat} : restE e0 e (v :: vs) = (restE e0 e vs).set v (kRs e0[v]?) := by
  show (restE e0 e vs).set v (match e0[v]? with | some (some (.sh d)) => some (.sh d) | _ => none) = _
  rfl
theorem v_re0 {e0 e : Ev} : restE e0 e [] = e := rfl
theorem v_re1 {d : D} : kRs (some (some (.sh d))) = some (.sh d) := rfl
theorem v_re2 {d : D} : kRs (some (some (.ow d))) = none := rfl
theorem v_re3 : kRs (some none) = none := rfl
theorem v_wi {e : Ev} {v : Nat} {vs : List Nat} : wipeE e (v :: vs) = (wipeE e vs).set v none := rfl
theorem v_wi0 {e : Ev} : wipeE e [] = e := rfl

/-! ### items -/
theorem dAt_get {ds : List D} {i : Int} {d : D} (h : 0 ≤ i) (g : ds[i.toNat]? = some d) : dAt ds i = some (.sh d) := by
  have hl : i.toNat < ds.length := (List.getElem?_eq_some_iff.mp g).1
  unfold dAt atI ixN
  have h2 : i < ds.length := by omega
  rw [if_pos h, if_pos h2]
  show (match ds[i.toNat]? with | some d => some (Sl.sh d) | none => none) = _
  rw [g]
theorem dAt_back {ds : List D} {i : Int} {d : D} (h : i < 0) (h1 : 0 ≤ i + ds.length) (g : ds[(i + ds.length).toNat]? = some d) : dAt ds i = some (.sh d) := by
  unfold dAt atI ixN
  have h2 : ¬ 0 ≤ i := by omega
  have h3 : -(ds.length : Int) ≤ i := by omega
  rw [if_neg h2, if_pos h3]
  show (match ds[(i + ds.length).toNat]? with | some d => some (Sl.sh d) | none => none) = _
  rw [g]
theorem dAt0 {d : D} {ds : List D} : dAt (d :: ds) 0 = some (.sh d) := dAt_get (Int.le_refl _) rfl
theorem dAt_int {ns : List Int} {i : Int} {x : Int} (h : 0 ≤ i) (g : ns[i.toNat]? = some x) : dAt (ns.map D.int) i = some (.sh (.int x)) := dAt_get h (by simp [g])
theorem setGet {e : Ev} {i : Nat} {s : Option Sl} (h : i < e.length) : (e.set i s)[i]? = some s := List.getElem?_set_self h
end DL

end
section
set_option maxRecDepth 100000
set_option maxHeartbeats 2000000
/-! DM2: mirrors evaluated from the top, step by step (rules for simp). -/
namespace DL
open PySem PySem.Spec PyProof.Rows L2

def muO : Option Sl → Bool
  | some (.mu _) => true
  | _ => false
theorem muO_n : muO none = false := rfl
theorem muO_s {d : D} : muO (some (.sh d)) = false := rfl
theorem muO_o {d : D} : muO (some (.ow d)) = false := rfl
theorem sld_s {d : D} : (Sl.sh d).d = d := rfl
theorem sld_o {d : D} : (Sl.ow d).d = d := rfl
theorem sld_m {d : D} : (Sl.mu d).d = d := rfl
section
variable {α β : Type} {f g : M Sl} {c c2 : M Bool} {b b2 : M Fl} {e : Ev} {i : Nat} {s : Sl} {d d' r : D} {o : Opd} {os : List Opd} {ds : List D} {gg : List D → Option Sl} {t : Tg} {ts : List Tg} {x : Option Sl}
/-! statements -/
theorem v_nx : sNx e = .ok .nx e := rfl
theorem v_bk : sBk e = .ok .bk e := rfl
theorem v_ct : sCt e = .ok .ct e := rfl
def kIf (b b2 : M Fl) : Bool → Ev → R Fl := fun q e' => if q then b e' else b2 e'
theorem v_if : sIf c b b2 e = bd (c e) (kIf b b2) := rfl
theorem v_if2 {q : Bool} : kIf b b2 q e = if q then b e else b2 e := rfl
def kEx : Sl → Ev → R Fl := fun _ e' => .ok .nx e'
theorem v_ex : sExpr f e = bd (f e) kEx := rfl
theorem v_ex2 : kEx s e = .ok .nx e := rfl
def kRt : Sl → Ev → R Fl := fun s e' => .ok (.rt s) e'
theorem v_rt : sRet f e = bd (f e) kRt := rfl
theorem v_rt2 : kRt s e = .ok (.rt s) e := rfl
theorem v_as : sAsg i f e = bd (f e) (setE i) := rfl
def kSet (i : Nat) (s : Sl) (e : Ev) : Option (Option Sl) → R Fl
  | some o => if muO o || s.isMu then .bad else .ok .nx (e.set i (some s))
  | none => .bad
theorem v_se : setE i s e = kSet i s e e[i]? := by
  unfold setE kSet muAt
  cases e[i]? with
  | none => rfl
  | some o => cases o with
    | none => rfl
    | some q => cases q <;> rfl
theorem v_se1 (h : muO x = false) : kSet i (.sh d) e (some x) = .ok .nx (e.set i (some (.sh d))) := by
  show (if (muO x || false) = true then R.bad else _) = _
  rw [h]; rfl
theorem v_se2 (h : muO x = false) : kSet i (.ow d) e (some x) = .ok .nx (e.set i (some (.ow d))) := by
  show (if (muO x || false) = true then R.bad else _) = _
  rw [h]; rfl
theorem v_se1n : kSet i (.sh d) e (some none) = .ok .nx (e.set i (some (.sh d))) := rfl
theorem v_se1s {q : D} : kSet i (.sh d) e (some (some (.sh q))) = .ok .nx (e.set i (some (.sh d))) := rfl
theorem v_se1o {q : D} : kSet i (.sh d) e (some (some (.ow q))) = .ok .nx (e.set i (some (.sh d))) := rfl
theorem v_se2n : kSet i (.ow d) e (some none) = .ok .nx (e.set i (some (.ow d))) := rfl
theorem v_se2s {q : D} : kSet i (.ow d) e (some (some (.sh q))) = .ok .nx (e.set i (some (.ow d))) := rfl
theorem v_se2o {q : D} : kSet i (.ow d) e (some (some (.ow q))) = .ok .nx (e.set i (some (.ow d))) := rfl
def kUn : Option Ev → R Fl
  | some e => .ok .nx e
  | none => .bad
def kUnp (t : Tg) : Sl → Ev → R Fl := fun s e' => kUn (setTg t s.d e')
theorem v_un : sUnp t f e = bd (f e) (kUnp t) := by
  unfold sUnp kUnp
  congr 1
theorem v_un2 : kUnp t s e = kUn (setTg t s.d e) := rfl
theorem v_un3 : kUn (some e) = .ok .nx e := rfl
def kTg (i : Nat) (d : D) (e : Ev) : Option (Option Sl) → Option Ev
  | some o => if muO o then none else some (e.set i (some (.sh d)))
  | none => none
theorem v_tg : setTg (.nm i) d e = kTg i d e e[i]? := by
  unfold setTg kTg muAt
  cases e[i]? with
  | none => rfl
  | some o => cases o with
    | none => rfl
    | some q => cases q <;> rfl
theorem v_tg1 (h : muO x = false) : kTg i d e (some x) = some (e.set i (some (.sh d))) := by
  show (if muO x = true then none else _) = _
  rw [h]; rfl
theorem v_tg1n : kTg i d e (some none) = some (e.set i (some (.sh d))) := rfl
theorem v_tg1s {q : D} : kTg i d e (some (some (.sh q))) = some (e.set i (some (.sh d))) := rfl
theorem v_tg1o {q : D} : kTg i d e (some (some (.ow q))) = some (e.set i (some (.sh d))) := rfl
theorem v_tp : setTg (.tp ts) (.tup ds) e = setTgs ts ds e := by unfold setTg; rfl
def oB (x : Option Ev) (k : Ev → Option Ev) : Option Ev := match x with
  | some e => k e
  | none => none
theorem v_ts : setTgs (t :: ts) (d :: ds) e = oB (setTg t d e) (setTgs ts ds) := by
  show (match setTg t d e with | some e' => setTgs ts ds e' | none => none) = _
  rfl
theorem v_ts0 : setTgs [] [] e = some e := by unfold setTgs; rfl
theorem v_oB {k : Ev → Option Ev} : oB (some e) k = k e := rfl
def kRV (i : Nat) (e : Ev) : Option (Option Sl) → R Fl
  | some (some (.sh d)) => .ok (.rt (.sh d)) e
  | some (some (.ow d)) => .ok (.rt (.ow d)) (e.set i none)
  | _ => .bad
theorem v_rv : sRetV i e = kRV i e e[i]? := by
  unfold sRetV kRV
  rfl
theorem v_rv1 : kRV i e (some (some (.sh d))) = .ok (.rt (.sh d)) e := rfl
theorem v_rv2 : kRV i e (some (some (.ow d))) = .ok (.rt (.ow d)) (e.set i none) := rfl
def kS (l : Option (List D)) (e : Ev) : R (List D) := match l with
  | some l => .ok l e
  | none => .bad
theorem v_kS {l : List D} : kS (some l) e = .ok l e := rfl
def kSrc : Sl → Ev → R (List D) := fun s e' => kS (seqD s.d) e'
theorem v_sv : srcV f e = bd (f e) kSrc := rfl
theorem v_sv2 : kSrc s e = kS (seqD s.d) e := rfl
def kSrG (g : List D → Option (List D)) : List D → Ev → R (List D) := fun ds e' => kS (g ds) e'
theorem v_sg {g : List D → Option (List D)} : srcG g os e = bd (opsM os e) (kSrG g) := rfl
theorem v_sg2 {g : List D → Option (List D)} : kSrG g ds e = kS (g ds) e := rfl
theorem v_for {src : M (List D)} : sFor src t b e = bd (src e) (forM t b) := rfl
def kSt3 (i : Nat) (s : Sl) (e : Ev) : Option D → R Fl
  | some d' => .ok .nx (e.set i (some (s.wd d')))
  | none => .bad
def kSt2 (i : Nat) (k s : D) (e : Ev) : Option (Option Sl) → R Fl
  | some (some t) => if t.isOwn then kSt3 i t e (gSet t.d k s) else .bad
  | _ => .bad
def kSt (i : Nat) : List D → Ev → R Fl := fun ds e2 => match ds with
  | [s, _, k] => kSt2 i k s e2 e2[i]?
  | _ => .bad
theorem v_st : sStore i f g e = bd (opsM [.val f, .bor i, .val g] e) (kSt i) := by
  unfold sStore kSt
  congr 1
theorem v_st1 {k s u : D} : kSt i [s, u, k] e = kSt2 i k s e e[i]? := rfl
theorem v_st2 {k s : D} : kSt2 i k s e (some (some (.ow d))) = kSt3 i (.ow d) e (gSet d k s) := rfl
theorem v_st3 {k s : D} : kSt2 i k s e (some (some (.mu d))) = kSt3 i (.mu d) e (gSet d k s) := rfl
theorem v_st4 : kSt3 i (.ow d) e (some d') = .ok .nx (e.set i (some (.ow d'))) := rfl
theorem v_st5 : kSt3 i (.mu d) e (some d') = .ok .nx (e.set i (some (.mu d'))) := rfl
def kPar : Option Ev → R Fl
  | some e2 => .ok .nx e2
  | none => .bad
def kPr (is : List Nat) : Unit → Ev → R Fl := fun _ e1 => kPar (popSets is e1)
theorem v_pa {is : List Nat} {fs : List (M Sl)} : sPar is fs e = bd (parM fs e) (kPr is) := rfl
theorem v_pa2 {is : List Nat} : kPr is () e = kPar (popSets is e) := rfl
theorem v_pa3 : kPar (some e) = .ok .nx e := rfl
def kPm (fs : List (M Sl)) : Sl → Ev → R Unit := fun s e1 => parM fs (e1 ++ [some s])
theorem v_pm {fs : List (M Sl)} : parM (f :: fs) e = bd (f e) (kPm fs) := rfl
theorem v_pm0 : parM [] e = .ok () e := rfl
theorem v_pm2 {fs : List (M Sl)} : kPm fs s e = parM fs (e ++ [some s]) := rfl
def kPs2 (i : Nat) (s : Sl) (e : Ev) : Option (Option Sl) → Option Ev
  | some o => if muO o || s.isMu then none else some (e.set i (some s))
  | none => none
def kPs (i : Nat) (e : Ev) : Option (Option Sl) → Option Ev
  | some (some s) => kPs2 i s e e[i]?
  | _ => none
theorem v_ps0 : popSets [] e = some e := rfl
theorem v_ps {is : List Nat} : popSets (i :: is) e = oB (popSets is e) (popSet i) := rfl
theorem v_p1 : popSet i e = kPs i e.dropLast e.getLast? := by
  unfold popSet kPs kPs2 muAt
  cases e.getLast? with
  | none => rfl
  | some q => cases q with
    | none => rfl
    | some q =>
      dsimp only
      cases e.dropLast[i]? with
      | none => rfl
      | some r => cases r with
        | none => rfl
        | some r => cases r <;> rfl
theorem v_p2 : kPs i e (some (some s)) = kPs2 i s e e[i]? := rfl
theorem v_p3n : kPs2 i (.sh d) e (some none) = some (e.set i (some (.sh d))) := rfl
theorem v_p3s {q : D} : kPs2 i (.sh d) e (some (some (.sh q))) = some (e.set i (some (.sh d))) := rfl
theorem v_p3o {q : D} : kPs2 i (.sh d) e (some (some (.ow q))) = some (e.set i (some (.sh d))) := rfl
theorem v_p4n : kPs2 i (.ow d) e (some none) = some (e.set i (some (.ow d))) := rfl
theorem v_p4s {q : D} : kPs2 i (.ow d) e (some (some (.sh q))) = some (e.set i (some (.ow d))) := rfl
theorem v_p4o {q : D} : kPs2 i (.ow d) e (some (some (.ow q))) = some (e.set i (some (.ow d))) := rfl
theorem v_p5 (h : muO x = false) : kPs2 i (.sh d) e (some x) = some (e.set i (some (.sh d))) := by
  show (if (muO x || false) = true then none else _) = _
  rw [h]; rfl
theorem v_p6 (h : muO x = false) : kPs2 i (.ow d) e (some x) = some (e.set i (some (.ow d))) := by
  show (if (muO x || false) = true then none else _) = _
  rw [h]; rfl
/-! expressions -/
theorem v_c : eC d e = .ok (.sh d) e := rfl
def kVar (i : Nat) (e : Ev) : Option (Option Sl) → R Sl
  | some (some (.sh d)) => .ok (.sh d) e
  | some (some (.ow d)) => .ok (.sh d) (e.set i (some (.sh d)))
  | _ => .bad
theorem v_va : eVar i e = kVar i e e[i]? := by
  unfold eVar kVar
  rfl
theorem v_va1 : kVar i e (some (some (.sh d))) = .ok (.sh d) e := rfl
theorem v_va2 : kVar i e (some (some (.ow d))) = .ok (.sh d) (e.set i (some (.sh d))) := rfl
def kN (g : List D → Option Sl) : List D → Ev → R Sl := fun ds e' => okG (g ds) e'
theorem v_n : eN gg os e = bd (opsM os e) (kN gg) := rfl
theorem v_n2 : kN gg ds e = okG (gg ds) e := rfl
theorem v_o0 : opsM [] e = .ok [] e := rfl
def kOv (os : List Opd) : Sl → Ev → R (List D) := fun s e1 => bd (opsM os e1) fun ds e2 => .ok (s.d :: ds) e2
def kOc (d : D) : List D → Ev → R (List D) := fun ds e2 => .ok (d :: ds) e2
theorem v_ov : opsM (.val f :: os) e = bd (f e) (kOv os) := rfl
theorem v_ov2 : kOv os s e = bd (opsM os e) (kOc s.d) := rfl
theorem v_oc : kOc d ds e = .ok (d :: ds) e := rfl
def kOd (ds : List D) (e : Ev) : Option (Option Sl) → R (List D)
  | some (some s) => .ok (s.d :: ds) e
  | _ => .bad
def kOe (i : Nat) : List D → Ev → R (List D) := fun ds e2 => kOd ds e2 e2[i]?
def kOb (i : Nat) (os : List Opd) (e : Ev) : Option (Option Sl) → R (List D)
  | some (some _) => bd (opsM os e) (kOe i)
  | _ => .bad
theorem v_ob : opsM (.bor i :: os) e = kOb i os e e[i]? := by
  show (match e[i]? with | some (some _) => bd (opsM os e) (fun ds e2 => match e2[i]? with | some (some s) => R.ok (s.d :: ds) e2 | _ => .bad) | _ => .bad) = _
  unfold kOb kOe kOd
  rfl
theorem v_ob1 : kOb i os e (some (some s)) = bd (opsM os e) (kOe i) := rfl
theorem v_oe : kOe i ds e = kOd ds e e[i]? := rfl
theorem v_od : kOd ds e (some (some s)) = .ok (s.d :: ds) e := rfl
def kB1 : Sl → Ev → R Bool := fun s e' => match s with
  | .sh (.bl b) => .ok b e'
  | _ => .bad
theorem v_b1 : tB1 f e = bd (f e) kB1 := rfl
theorem v_b1b {q : Bool} : kB1 (.sh (.bl q)) e = .ok q e := rfl
def kTv : List D → Ev → R Bool := fun ds e' => match ds with
  | [d] => (match truD d with
    | some b => .ok b e'
    | none => .bad)
  | _ => .bad
theorem v_tv : tVal o e = bd (opsM [o] e) kTv := rfl
theorem v_tvb {q : Bool} : kTv [.bl q] e = .ok q e := rfl
theorem v_tvi {q : Int} : kTv [.int q] e = .ok (q != 0) e := rfl
theorem v_tvt {q : List D} : kTv [.tup q] e = .ok (!q.isEmpty) e := rfl
theorem v_tvl {q : List D} : kTv [.lst q] e = .ok (!q.isEmpty) e := rfl
def kNt : Bool → Ev → R Bool := fun b e' => .ok (!b) e'
theorem v_nt : tNotM c e = bd (c e) kNt := rfl
theorem v_nt2 {q : Bool} : kNt q e = .ok (!q) e := rfl
def kTa (c2 : M Bool) : Bool → Ev → R Bool := fun q e' => if q then c2 e' else .ok false e'
theorem v_an : tAndM c c2 e = bd (c e) (kTa c2) := rfl
theorem v_an2 {q : Bool} : kTa c2 q e = if q then c2 e else .ok false e := rfl
def kTo (c2 : M Bool) : Bool → Ev → R Bool := fun q e' => if q then .ok true e' else c2 e'
theorem v_or : tOrM c c2 e = bd (c e) (kTo c2) := rfl
theorem v_or2 {q : Bool} : kTo c2 q e = if q then .ok true e else c2 e := rfl
theorem v_ye : tYesM e = .ok true e := rfl
def kEi (f g : M Sl) : Bool → Ev → R Sl := fun q e' => if q then f e' else g e'
theorem v_ei : eIf c f g e = bd (c e) (kEi f g) := rfl
theorem v_ei2 {q : Bool} : kEi f g q e = if q then f e else g e := rfl
def kNo : List D → Ev → R Sl := fun ds e' => bd (kTv ds e') fun b e2 => .ok (.sh (.bl (!b))) e2
theorem v_no : eNot o e = bd (opsM [o] e) kNo := by
  show bd (bd (bd (opsM [o] e) kTv) kNt) (fun b e' => R.ok (Sl.sh (.bl b)) e') = _
  cases opsM [o] e with
  | ok ds e' =>
    show bd (bd (kTv ds e') kNt) _ = bd (kTv ds e') _
    cases kTv ds e' <;> rfl
  | _ => rfl
theorem v_nob {q : Bool} : kNo [.bl q] e = .ok (.sh (.bl (!q))) e := rfl
def kAn (g : M Sl) : List D → Ev → R Sl := fun ds e' => match ds with
  | [d] => (match truD d with
    | some false => .ok (.sh d) e'
    | some true => g e'
    | none => .bad)
  | _ => .bad
theorem v_ea : eAnd o g e = bd (opsM [o] e) (kAn g) := rfl
theorem v_eat : kAn g [.bl true] e = g e := rfl
theorem v_eaf : kAn g [.bl false] e = .ok (.sh (.bl false)) e := rfl
theorem v_eab {q : Bool} : kAn g [.bl q] e = if q then g e else .ok (.sh (.bl false)) e := by cases q <;> rfl
def kOr (g : M Sl) : List D → Ev → R Sl := fun ds e' => match ds with
  | [d] => (match truD d with
    | some true => .ok (.sh d) e'
    | some false => g e'
    | none => .bad)
  | _ => .bad
theorem v_eo : eOr o g e = bd (opsM [o] e) (kOr g) := rfl
theorem v_eob {q : Bool} : kOr g [.bl q] e = if q then .ok (.sh (.bl true)) e else g e := by cases q <;> rfl
def kCh2 (q : Int → Int → Bool) (j : Int) : List D → Ev → R Sl := fun es e2 => match es with
  | [.int k] => .ok (.sh (.bl (q j k))) e2
  | _ => .bad
def kCh (p q : Int → Int → Bool) (o3 : Opd) : List D → Ev → R Sl := fun ds e1 => match ds with
  | [.int i, .int j] => if p i j then bd (opsM [o3] e1) (kCh2 q j) else .ok (.sh (.bl false)) e1
  | _ => .bad
theorem v_ch {p q : Int → Int → Bool} {o1 o2 o3 : Opd} : eChain p q o1 o2 o3 e = bd (opsM [o1, o2] e) (kCh p q o3) := rfl
theorem v_ch1 {p q : Int → Int → Bool} {o3 : Opd} {i j : Int} : kCh p q o3 [.int i, .int j] e = if p i j then bd (opsM [o3] e) (kCh2 q j) else .ok (.sh (.bl false)) e := rfl
theorem v_ch2 {q : Int → Int → Bool} {j k : Int} : kCh2 q j [.int k] e = .ok (.sh (.bl (q j k))) e := rfl
def kIn : Sl → Ev → R Sl := fun s e' => match s with
  | .sh (.int i) => .ok (.sh (.int i)) e'
  | _ => .bad
theorem v_in : eInt f e = bd (f e) kIn := rfl
theorem v_in2 {q : Int} : kIn (.sh (.int q)) e = .ok (.sh (.int q)) e := rfl
/-! calls -/
def kC3 (i : Nat) (r : Sl) (out : D) (e : Ev) : Option (Option Sl) → R Sl
  | some (some s) => if s.isOwn then okS r (e.set i (some (s.wd out))) else .bad
  | _ => .bad
def kC2 (r : Sl) (out : D) (e : Ev) : Option Opd → R Sl
  | some (.bor i) => kC3 i r out e e[i]?
  | _ => .bad
def kCl (mi : Option Nat) (os : List Opd) (e : Ev) : RF → R Sl
  | .ok r out => (match mi with
    | none => okS r e
    | some j => kC2 r out e os[j]?)
  | .exn x => if mi = none then .exn x e else .bad
  | .bad => .bad
def kCa (mi : Option Nat) (m : List D → RF) (os : List Opd) : List D → Ev → R Sl := fun ds e' => kCl mi os e' (m ds)
theorem v_ca {mi : Option Nat} {m : List D → RF} : eCall mi m os e = bd (opsM os e) (kCa mi m os) := by
  unfold eCall kCa
  congr 1
  funext ds e'
  cases m ds with
  | ok r out =>
    cases mi with
    | none => rfl
    | some j =>
      unfold kCl
      dsimp only
      cases hj : os[j]? with
      | none => rfl
      | some q =>
        cases q with
        | val f => rfl
        | bor i =>
          show (match outE i out e' with | some e2 => okS r e2 | none => R.bad) = kC3 i r out e' e'[i]?
          unfold outE kC3
          cases e'[i]? with
          | none => rfl
          | some q => cases q with
            | none => rfl
            | some q => cases q <;> rfl
  | _ => rfl
theorem v_ca2 {mi : Option Nat} {m : List D → RF} : kCa mi m os ds e = kCl mi os e (m ds) := rfl
theorem v_cn {out : D} : kCl none os e (.ok s out) = okS s e := rfl
theorem v_cs {j : Nat} {out : D} : kCl (some j) os e (.ok s out) = kC2 s out e os[j]? := rfl
theorem v_c2 {out : D} : kC2 s out e (some (.bor i)) = kC3 i s out e e[i]? := rfl
theorem v_c3o {out : D} : kC3 i s out e (some (some (.ow d))) = okS s (e.set i (some (.ow out))) := rfl
theorem v_c3m {out : D} : kC3 i s out e (some (some (.mu d))) = okS s (e.set i (some (.mu out))) := rfl
theorem v_oks : okS (.sh d) e = .ok (.sh d) e := rfl
theorem v_oko : okS (.ow d) e = .ok (.ow d) e := rfl
def kC5 (e : Ev) : RF → R Sl
  | .ok r _ => okS r e
  | _ => .bad
def kC4 (m : List D → RF) : Sl → Ev → R Sl := fun s e1 => match s with
  | .ow d => kC5 e1 (m [d])
  | _ => .bad
theorem v_c1 {m : List D → RF} : eCall1t m g e = bd (g e) (kC4 m) := by
  unfold eCall1t kC4
  congr 1
theorem v_c4 {m : List D → RF} : kC4 m (.ow d) e = kC5 e (m [d]) := rfl
theorem v_c5 {out : D} : kC5 e (.ok s out) = okS s e := rfl
def kM4 (i : Nat) (s : Sl) (e : Ev) : Option (D × D) → R Sl
  | some (d', r) => .ok (.sh r) (e.set i (some (s.wd d')))
  | none => .bad
def kM3 (i : Nat) (g : D → List D → Option (D × D)) (ds : List D) (e : Ev) : Option (Option Sl) → R Sl
  | some (some s) => if s.isOwn then kM4 i s e (g s.d ds) else .bad
  | _ => .bad
def kM2 (i : Nat) (g : D → List D → Option (D × D)) : List D → Ev → R Sl := fun ds e' => kM3 i g ds e' e'[i]?
def kM1 (T : String) (i : Nat) (g : D → List D → Option (D × D)) (os : List Opd) (e : Ev) : Option (Option Sl) → R Sl
  | some (some s) => if s.isOwn && tyD s.d == T then bd (opsM os e) (kM2 i g) else .bad
  | _ => .bad
theorem v_mu {T : String} {g : D → List D → Option (D × D)} : eMut T i g os e = kM1 T i g os e e[i]? := by
  unfold eMut kM1 kM2 kM3 kM4
  cases e[i]? with
  | none => rfl
  | some q => cases q with
    | none => rfl
    | some q => rfl
theorem v_mu1 {g : D → List D → Option (D × D)} : kM1 "list" i g os e (some (some (.ow (.lst ds)))) = bd (opsM os e) (kM2 i g) := rfl
theorem v_mu1m {g : D → List D → Option (D × D)} : kM1 "list" i g os e (some (some (.mu (.lst ds)))) = bd (opsM os e) (kM2 i g) := rfl
theorem v_mu2 {g : D → List D → Option (D × D)} : kM2 i g ds e = kM3 i g ds e e[i]? := rfl
theorem v_mu3 {g : D → List D → Option (D × D)} : kM3 i g ds e (some (some (.ow d))) = kM4 i (.ow d) e (g d ds) := rfl
theorem v_mu3m {g : D → List D → Option (D × D)} : kM3 i g ds e (some (some (.mu d))) = kM4 i (.mu d) e (g d ds) := rfl
theorem v_mu4 : kM4 i (.ow d) e (some (d', r)) = .ok (.sh r) (e.set i (some (.ow d'))) := rfl
theorem v_mu4m : kM4 i (.mu d) e (some (d', r)) = .ok (.sh r) (e.set i (some (.mu d'))) := rfl
/-! what operations give -/
theorem w_1 {h : D → Option Sl} : gg1 h [d] = h d := rfl
theorem w_2 {h : D → D → Option Sl} : gg2 h [d, d'] = h d d' := rfl
theorem w_3 {h : D → D → D → Option Sl} : gg3 h [d, d', r] = h d d' r := rfl
theorem w_add {a b : Int} : DL.gAdd (.int a) (.int b) = some (.sh (.int (a + b))) := rfl
theorem w_sub {a b : Int} : DL.gSub (.int a) (.int b) = some (.sh (.int (a - b))) := rfl
theorem w_lt {a b : Int} : gLt (.int a) (.int b) = some (.sh (.bl (decide (a < b)))) := rfl
theorem w_le {a b : Int} : gLe (.int a) (.int b) = some (.sh (.bl (decide (a ≤ b)))) := rfl
theorem w_gt {a b : Int} : gGt (.int a) (.int b) = some (.sh (.bl (decide (b < a)))) := rfl
theorem w_ge {a b : Int} : gGe (.int a) (.int b) = some (.sh (.bl (decide (b ≤ a)))) := rfl
theorem w_eqi {a b : Int} : gEq (.int a) (.int b) = some (.sh (.bl (a == b))) := rfl
theorem w_nei {a b : Int} : gNe (.int a) (.int b) = some (.sh (.bl (!(a == b)))) := rfl
theorem w_ixt {q : List D} {a : Int} : DL.gIx (.tup q) (.int a) = dAt q a := rfl
theorem w_ixl {q : List D} {a : Int} : DL.gIx (.lst q) (.int a) = dAt q a := rfl
theorem w_ixr {q : List D} {a : Int} : DL.gIx (.rol q) (.int a) = dAt q a := rfl
theorem w_lt1 {q : List D} : gLen (.tup q) = some (.sh (.int q.length)) := rfl
theorem w_ll {q : List D} : gLen (.lst q) = some (.sh (.int q.length)) := rfl
theorem w_lr {q : List D} : gLen (.rol q) = some (.sh (.int q.length)) := rfl
theorem w_div {a b : Int} (h : 0 < b) (h2 : b < 1073741824) : DL.gDiv (.int a) (.int b) = some (.sh (.int (a / b))) := by
  show (if decide (0 < b ∧ b < 1073741824) then si (a / b) else none) = _
  rw [if_pos (decide_eq_true ⟨h, h2⟩)]; rfl
theorem w_mod {a b : Int} (h : 0 < b) : DL.gMod (.int a) (.int b) = some (.sh (.int (a % b))) := by
  show (if decide (0 < b) then si (a % b) else none) = _
  rw [if_pos (decide_eq_true h)]; rfl
theorem w_dm {a b : Int} (h : 0 < b) (h2 : b < 1073741824) : DL.gDivmod (.int a) (.int b) = some (.sh (.tup [.int (a / b), .int (a % b)])) := by
  show (if decide (0 < b ∧ b < 1073741824) then DL.st _ else none) = _
  rw [if_pos (decide_eq_true ⟨h, h2⟩)]; rfl
theorem w_mul {a b : Int} (h : -18446744073709551616 < b ∧ b < 18446744073709551616) : DL.gMul (.int a) (.int b) = some (.sh (.int (a * b))) := by
  show (if DL.small64 a || DL.small64 b || _ then si (a * b) else none) = _
  have : DL.small64 b = true := decide_eq_true h
  rw [this]; simp [si]
theorem w_mul' {a b : Int} (h : -(2 ^ 64) < a ∧ a < 2 ^ 64) : DL.gMul (.int a) (.int b) = some (.sh (.int (a * b))) := by
  show (if DL.small64 a || DL.small64 b || _ then si (a * b) else none) = _
  have : DL.small64 a = true := decide_eq_true h
  rw [this]; simp [si]
theorem w_mulm {a b : Int} : DL.gMul (.int a) (.int (b % 1000000007)) = some (.sh (.int (a * (b % 1000000007)))) := by
  have h1 := Int.emod_nonneg b (show (1000000007 : Int) ≠ 0 by decide)
  have h2 := Int.emod_lt_of_pos b (show (0 : Int) < 1000000007 by decide)
  exact w_mul ⟨by omega, by omega⟩
theorem w_mull {a b : Int} (h : -18446744073709551616 < a ∧ a < 18446744073709551616) : DL.gMul (.int a) (.int b) = some (.sh (.int (a * b))) := w_mul' h
theorem w_abs {a : Int} : gAbs (.int a) = some (.sh (.int (if a < 0 then -a else a))) := rfl
theorem w_max {a b : Int} : gMax [.int a, .int b] = some (.sh (.int (if b > a then b else a))) := rfl
theorem w_min {a b : Int} : gMin [.int a, .int b] = some (.sh (.int (if b < a then b else a))) := rfl
theorem w_tupl {q : List D} : gTupOf (.lst q) = some (.sh (.tup q)) := rfl
theorem w_tupt {q : List D} : gTupOf (.tup q) = some (.sh (.tup q)) := rfl
theorem w_lstt {q : List D} : gLstOf (.tup q) = some (.ow (.lst q)) := rfl
theorem w_lstl {q : List D} : gLstOf (.lst q) = some (.ow (.lst q)) := rfl
theorem w_app {q : List D} {a : D} (h : q.length < sizeLine) : gApp (.lst q) [a] = some (.lst (q ++ [a]), .non) := by
  show (if decide (q.length < sizeLine) then some _ else none) = _
  rw [if_pos (decide_eq_true h)]
theorem w_r1 {j : Int} (h : rngOk j = true) : gRng [.int j] = some (rngD 0 j.toNat 1) := by
  show (if rngOk j = true then some _ else none) = _
  rw [if_pos h]
theorem w_r2 {i j : Int} (h : rngOk i = true) (h2 : rngOk j = true) : gRng [.int i, .int j] = some (rngD i (j - i).toNat 1) := by
  show (if (rngOk i && rngOk j) = true then some _ else none) = _
  rw [h, h2]; rfl
theorem rng_small {i : Int} (h : -1000000 ≤ i) (h2 : i ≤ 1000000) : rngOk i = true := decide_eq_true ⟨by omega, by omega⟩
theorem blsD_map {α : Type} {p : α → Bool} : ∀ {l : List α}, blsD (l.map fun d => D.bl (p d)) = some (l.map p)
  | [] => rfl
  | a :: l => by
    rw [List.map_cons]
    show (blsD (l.map fun d => D.bl (p d))).map (p a :: ·) = _
    rw [blsD_map]; rfl
theorem w_all {α : Type} {p : α → Bool} {l : List α} : gAll (.lst (l.map fun d => D.bl (p d))) = some (.sh (.bl (l.all p))) := by
  show (match blsD (l.map fun d => D.bl (p d)) with | some bs => sb (bs.all id) | none => none) = _
  rw [blsD_map]
  show some (Sl.sh (D.bl ((l.map p).all id))) = _
  rw [List.all_map]; rfl
theorem w_any {α : Type} {p : α → Bool} {l : List α} : gAny (.lst (l.map fun d => D.bl (p d))) = some (.sh (.bl (l.any p))) := by
  show (match blsD (l.map fun d => D.bl (p d)) with | some bs => sb (bs.any id) | none => none) = _
  rw [blsD_map]
  show some (Sl.sh (D.bl ((l.map p).any id))) = _
  rw [List.any_map]; rfl
theorem w_isT {q : List D} : gIsi "tuple" (.tup q) = some (.sh (.bl true)) := rfl
theorem w_isL {q : List D} : gIsi "tuple" (.lst q) = some (.sh (.bl false)) := rfl
theorem w_isI {q : Int} : gIsi "int" (.int q) = some (.sh (.bl true)) := rfl
theorem w_isB {q : Int} : gIsi "bool" (.int q) = some (.sh (.bl false)) := rfl
theorem w_isS {q : Str} : gIsi "str" (.str q) = some (.sh (.bl true)) := rfl
theorem w_sqt {q : List D} : seqD (.tup q) = some q := rfl
theorem w_sql {q : List D} : seqD (.lst q) = some q := rfl
theorem sIx_nn {n k : Nat} {i : Int} (h : 0 ≤ i) : HT.sIx n k (some i) = min i.toNat n := by
  have h1 : ¬ i < 0 := by omega
  simp only [HT.sIx, h1, if_false]
theorem cut10 {ds : List D} {i : Int} (h : 0 ≤ i) : cutD ds (some i) none = ds.drop i.toNat := by
  unfold cutD
  rw [sIx_nn h]
  have e : HT.sIx ds.length ds.length none = ds.length := rfl
  rw [e]
  by_cases hl : i.toNat ≤ ds.length
  · rw [Nat.min_eq_left hl, List.take_of_length_le (by simp)]
  · rw [Nat.min_eq_right (by omega), List.drop_eq_nil_of_le (Nat.le_refl _), List.drop_eq_nil_of_le (by omega)]
    simp
theorem cut01 {ds : List D} {i : Int} (h : 0 ≤ i) : cutD ds none (some i) = ds.take i.toNat := by
  unfold cutD
  rw [sIx_nn h]
  have e : HT.sIx ds.length 0 none = 0 := rfl
  rw [e, List.drop_zero, Nat.sub_zero]
  by_cases hl : i.toNat ≤ ds.length
  · rw [Nat.min_eq_left hl]
  · rw [Nat.min_eq_right (by omega), List.take_of_length_le (Nat.le_refl _), List.take_of_length_le (by omega)]
theorem w_c10t {q : List D} {i : Int} (h : 0 ≤ i) : gCut10 (.tup q) (.int i) = some (.sh (.tup (q.drop i.toNat))) := by
  show some (Sl.sh (D.tup (cutD q (some i) none))) = _
  rw [cut10 h]
theorem w_c10l {q : List D} {i : Int} (h : 0 ≤ i) : gCut10 (.lst q) (.int i) = some (.ow (.lst (q.drop i.toNat))) := by
  show some (Sl.ow (D.lst (cutD q (some i) none))) = _
  rw [cut10 h]
theorem w_c01t {q : List D} {i : Int} (h : 0 ≤ i) : gCut01 (.tup q) (.int i) = some (.sh (.tup (q.take i.toNat))) := by
  show some (Sl.sh (D.tup (cutD q none (some i)))) = _
  rw [cut01 h]
theorem w_c01l {q : List D} {i : Int} (h : 0 ≤ i) : gCut01 (.lst q) (.int i) = some (.ow (.lst (q.take i.toNat))) := by
  show some (Sl.ow (D.lst (cutD q none (some i)))) = _
  rw [cut01 h]
theorem mem_zip2 {α β γ : Type} {f : α → β → γ} {d : γ} : ∀ {xs : List α} {ys : List β}, d ∈ List.zipWith f xs ys → ∃ (i : Nat) (x : α) (y : β), xs[i]? = some x ∧ ys[i]? = some y ∧ d = f x y
  | [], _, h => by simp at h
  | _ :: _, [], h => by simp at h
  | x :: xs, y :: ys, h => by
    rw [List.zipWith_cons_cons] at h
    rcases List.mem_cons.mp h with h | h
    · exact ⟨0, x, y, rfl, rfl, h⟩
    · obtain ⟨i, a, b, h1, h2, h3⟩ := mem_zip2 h
      exact ⟨i + 1, a, b, by simpa using h1, by simpa using h2, h3⟩
theorem w_z2 {a b : D} {xs ys : List D} (h1 : itemsD a = some xs) (h2 : itemsD b = some ys) : gZip [a, b] = some (List.zipWith (fun x y => .tup [x, y]) xs ys) := by
  show (match itemsD a, itemsD b with | some xs, some ys => some (List.zipWith (fun x y => D.tup [x, y]) xs ys) | _, _ => none) = _
  rw [h1, h2]
theorem w_ztt {xs ys : List D} : gZip [.tup xs, .tup ys] = some (List.zipWith (fun x y => .tup [x, y]) xs ys) := rfl
theorem w_zll {xs ys : List D} : gZip [.lst xs, .lst ys] = some (List.zipWith (fun x y => .tup [x, y]) xs ys) := rfl
theorem w_ztl {xs ys : List D} : gZip [.tup xs, .lst ys] = some (List.zipWith (fun x y => .tup [x, y]) xs ys) := rfl
theorem w_zlt {xs ys : List D} : gZip [.lst xs, .tup ys] = some (List.zipWith (fun x y => .tup [x, y]) xs ys) := rfl
theorem w_tup (h : ds.length ≤ sizeLine) : DL.gTup ds = some (.sh (.tup ds)) := by unfold DL.gTup fits; rw [if_pos h]; rfl
theorem w_lst (h : ds.length ≤ sizeLine) : DL.gLst ds = some (.ow (.lst ds)) := by unfold DL.gLst fits; rw [if_pos h]; rfl
theorem w_lst0 : DL.gLst [] = some (.ow (.lst [])) := by unfold DL.gLst fits; exact if_pos (Nat.zero_le _)
theorem w_set0 {a : D} : DL.gSet (.lst (a :: ds)) (.int 0) d = some (.lst (d :: ds)) := by
  have h : ixN (a :: ds).length 0 = some 0 := by unfold ixN; rw [if_pos (by decide), if_pos (by simp)]; rfl
  show (match ixN (a :: ds).length 0 with | some j => some (D.lst ((a :: ds).set j d)) | none => none) = _
  rw [h]
  rfl
theorem w_set {ds : List D} {a : Int} {j : Nat} (h : ixN ds.length a = some j) : DL.gSet (.lst ds) (.int a) d = some (.lst (ds.set j d)) := by
  show (match ixN ds.length a with | some j => some (D.lst (ds.set j d)) | none => none) = _
  rw [h]
end
end DL

end
section
set_option maxRecDepth 100000
set_option maxHeartbeats 2000000
/-! DX1: mirrors against typed functions: outcomes, frames told, the judgement, its rules for expressions. -/
namespace DL
open PySem PySem.Spec PyProof.Rows L2

/-- what a typed computation gives -/
inductive O (α : Type) where
  | ok (a : α) | ex (x : Ex) | bad
def bnd {α β : Type} (t : O α) (k : α → O β) : O β := match t with
  | .ok a => k a
  | .ex x => .ex x
  | .bad => .bad
theorem bnd_ok {α β : Type} {a : α} {k : α → O β} : bnd (.ok a) k = k a := rfl
theorem bnd_ex {α β : Type} {x : Ex} {k : α → O β} : bnd (.ex x) k = .ex x := rfl
theorem bnd_bad {α β : Type} {k : α → O β} : bnd .bad k = .bad := rfl
/-- a name for a value -/
def lt {α β : Type} (a : α) (k : α → β) : β := k a
theorem lt_eq {α β : Type} {a : α} {k : α → β} : lt a k = k a := rfl
/-- what is told of a slot -/
inductive SD where
  | any | s (d : D) | o (d : D) | v (d : D) | m (d : D)
def nmu : Option Sl → Prop
  | some (.mu _) => False
  | _ => True
def Fit : SD → Option Sl → Prop
  | .any, x => nmu x
  | .s d, x => x = some (.sh d)
  | .o d, x => x = some (.ow d)
  | .v d, x => x = some (.sh d) ∨ x = some (.ow d)
  | .m d, x => x = some (.mu d)
abbrev FD := List SD
inductive Fits : FD → Ev → Prop
  | nil : Fits [] []
  | cons {s : SD} {x : Option Sl} {fr : FD} {e : Ev} : Fit s x → Fits fr e → Fits (s :: fr) (x :: e)
def fget : FD → Nat → Option SD
  | [], _ => none
  | s :: _, 0 => some s
  | _ :: fr, n + 1 => fget fr n
def fset : FD → Nat → SD → FD
  | [], _, _ => []
  | _ :: fr, 0, x => x :: fr
  | s :: fr, n + 1, x => s :: fset fr n x
theorem fits_get : ∀ {fr : FD} {e : Ev} {i : Nat} {s : SD}, Fits fr e → fget fr i = some s → ∃ x, e[i]? = some x ∧ Fit s x
  | _, _, 0, _, .cons h _, g => by cases g; exact ⟨_, rfl, h⟩
  | _, _, i + 1, _, .cons _ h, g => by
    obtain ⟨x, h1, h2⟩ := fits_get h g
    exact ⟨x, by simpa using h1, h2⟩
theorem fits_set {s : SD} {x : Option Sl} (hx : Fit s x) : ∀ {fr : FD} {e : Ev} {i : Nat}, Fits fr e → Fits (fset fr i s) (e.set i x)
  | _, _, _, .nil => .nil
  | _, _, 0, .cons _ h => .cons hx h
  | _, _, i + 1, .cons h t => .cons h (fits_set hx t)
theorem ap_get {e suf : Ev} {i : Nat} {x : Option Sl} (h : e[i]? = some x) : (e ++ suf)[i]? = some x := by
  rw [List.getElem?_append_left (List.getElem?_eq_some_iff.mp h).1]; exact h
theorem ap_set {e suf : Ev} {i : Nat} {x y : Option Sl} (h : e[i]? = some x) : (e ++ suf).set i y = e.set i y ++ suf := List.set_append_left i y (List.getElem?_eq_some_iff.mp h).1
/-- one frame tells more than another -/
def FLe (fr fr' : FD) : Prop := ∀ e, Fits fr e → Fits fr' e
inductive Le1 : SD → SD → Prop
  | r {a : SD} : Le1 a a
  | sv {d : D} : Le1 (.s d) (.v d)
  | ov {d : D} : Le1 (.o d) (.v d)
  | sa {d : D} : Le1 (.s d) .any
  | oa {d : D} : Le1 (.o d) .any
  | va {d : D} : Le1 (.v d) .any
theorem Le1.fit {a b : SD} {x : Option Sl} (h : Le1 a b) (f : Fit a x) : Fit b x := by
  cases h with
  | r => exact f
  | sv => exact .inl f
  | ov => exact .inr f
  | sa => cases (show x = _ from f); trivial
  | oa => cases (show x = _ from f); trivial
  | va => rcases f with f | f <;> (cases (show x = _ from f); trivial)
theorem fle_r {fr : FD} : FLe fr fr := fun _ h => h
theorem fle_nil : FLe [] [] := fun _ h => h
theorem fle_c {a b : SD} {fr fr' : FD} (h : Le1 a b) (t : FLe fr fr') : FLe (a :: fr) (b :: fr') := fun e f => by
  cases f with | cons f1 f2 => exact .cons (h.fit f1) (t _ f2)
/-- a result's tag: shared, own, either -/
inductive Tk where
  | s | o | a
def RT {τ : Type} (w : Tk) (en : τ → D) (a : τ) (x : Sl) : Prop := match w with
  | .s => x = .sh (en a)
  | .o => x = .ow (en a)
  | .a => x = .sh (en a) ∨ x = .ow (en a)
def Rb {τ : Type} (b : τ → Bool) (a : τ) (q : Bool) : Prop := q = b a
def Rl {τ : Type} (l : τ → List D) (a : τ) (q : List D) : Prop := q = l a
theorem RT.d {τ : Type} {w : Tk} {en : τ → D} {a : τ} {x : Sl} (h : RT w en a x) : x.d = en a := by
  cases w with
  | s => cases (show x = _ from h); rfl
  | o => cases (show x = _ from h); rfl
  | a => rcases h with h | h <;> (cases (show x = _ from h); rfl)
def Tk.sd (w : Tk) (d : D) : SD := match w with
  | .s => .s d
  | .o => .o d
  | .a => .v d
theorem RT.fit {τ : Type} {w : Tk} {en : τ → D} {a : τ} {x : Sl} (h : RT w en a x) : Fit (w.sd (en a)) (some x) := by
  cases w with
  | s => cases (show x = _ from h); rfl
  | o => cases (show x = _ from h); rfl
  | a => rcases h with h | h <;> (cases (show x = _ from h)); exact .inl rfl; exact .inr rfl
theorem RT.nm {τ : Type} {w : Tk} {en : τ → D} {a : τ} {x : Sl} (h : RT w en a x) : x.isMu = false := by
  cases w with
  | s => cases (show x = _ from h); rfl
  | o => cases (show x = _ from h); rfl
  | a => rcases h with h | h <;> (cases (show x = _ from h); rfl)
def onO {τ : Type} (t : O τ) (p : τ → Prop) (q : Ex → Prop) : Prop := match t with
  | .ok a => p a
  | .ex x => q x
  | .bad => True
theorem bd_bd {α β γ : Type} (r : R α) (f : α → M β) (g : β → M γ) : bd (bd r f) g = bd r fun a e => bd (f a e) g := by cases r <;> rfl
/-- THE JUDGEMENT: from every frame of which fr is told the mirror m does what t says -/
structure X {β τ : Type} (fr : FD) (m : M β) (t : O τ) (Q : τ → β → Prop) (F : τ → FD) : Prop where
  run : ∀ e suf, Fits fr e → onO t (fun a => ∃ b e', m (e ++ suf) = .ok b (e' ++ suf) ∧ Q a b ∧ Fits (F a) e') (fun x => ∃ e', m (e ++ suf) = .exn x e')
section
variable {α β γ τ τ1 τ0 : Type} {fr fr' : FD} {Q : τ → β → Prop} {F : τ → FD} {t : O τ}
theorem x_bd {m : M α} {k : α → M β} {t1 : O τ1} {k' : τ1 → O τ} {R1 : τ1 → α → Prop} {F1 : τ1 → FD} (h1 : X fr m t1 R1 F1) (h2 : ∀ a b, R1 a b → X (F1 a) (k b) (k' a) Q F) : X fr (fun e => bd (m e) k) (bnd t1 k') Q F := by
  refine .mk fun e suf hf => ?_
  have q := h1.run e suf hf
  cases t1 with
  | bad => trivial
  | ex x => obtain ⟨e', q⟩ := q; exact ⟨e', by show bd _ _ = _; rw [q]; rfl⟩
  | ok a =>
    obtain ⟨b, e', q1, q2, q3⟩ := q
    have z := (h2 a b q2).run e' suf q3
    rw [bnd_ok]
    cases hk : k' a with
    | bad => trivial
    | ex x => rw [hk] at z; obtain ⟨e2, z⟩ := z; exact ⟨e2, by show bd _ _ = _; rw [q1]; exact z⟩
    | ok c => rw [hk] at z; obtain ⟨b2, e2, z1, z2⟩ := z; exact ⟨b2, e2, by show bd _ _ = _; rw [q1]; exact z1, z2⟩
theorem x_bdP {m : M α} {k : α → M β} {a : τ1} {R1 : τ1 → α → Prop} {F1 : τ1 → FD} (h1 : X fr m (.ok a) R1 F1) (h2 : ∀ b, R1 a b → X (F1 a) (k b) t Q F) : X fr (fun e => bd (m e) k) t Q F := by
  refine .mk fun e suf hf => ?_
  obtain ⟨b, e', q1, q2, q3⟩ := h1.run e suf hf
  have z := (h2 b q2).run e' suf q3
  cases t with
  | bad => trivial
  | ex x => obtain ⟨e2, z⟩ := z; exact ⟨e2, by show bd _ _ = _; rw [q1]; exact z⟩
  | ok c => obtain ⟨b2, e2, z1, z2⟩ := z; exact ⟨b2, e2, by show bd _ _ = _; rw [q1]; exact z1, z2⟩
theorem x_pure {m : M β} {a : τ} {b : β} (h : ∀ e suf, Fits fr e → ∃ e', m (e ++ suf) = .ok b (e' ++ suf) ∧ Fits (F a) e') (r : Q a b) : X fr m (.ok a) Q F := .mk fun e suf hf => by
  obtain ⟨e', h1, h2⟩ := h e suf hf
  exact ⟨b, e', h1, r, h2⟩
theorem x_same {m : M β} {a : τ} {b : β} (h : ∀ e, m e = .ok b e) (r : Q a b) : X fr m (.ok a) Q (fun _ => fr) := x_pure (fun e suf hf => ⟨e, h _, hf⟩) r
theorem x_le {m : M β} (l : FLe fr fr') (h : X fr' m t Q F) : X fr m t Q F := .mk fun e suf hf => h.run e suf (l e hf)
theorem x_to {m : M β} {F' : τ → FD} (h : X fr m t Q F) (l : ∀ a, FLe (F a) (F' a)) : X fr m t Q F' := .mk fun e suf hf => by
  have z := h.run e suf hf
  cases t with
  | bad => trivial
  | ex x => exact z
  | ok c => obtain ⟨b2, e2, z1, z2, z3⟩ := z; exact ⟨b2, e2, z1, z2, l c _ z3⟩
theorem x_rel {m : M β} {Q' : τ → β → Prop} (h : X fr m t Q F) (l : ∀ a b, Q a b → Q' a b) : X fr m t Q' F := .mk fun e suf hf => by
  have z := h.run e suf hf
  cases t with
  | bad => trivial
  | ex x => exact z
  | ok c => obtain ⟨b2, e2, z1, z2, z3⟩ := z; exact ⟨b2, e2, z1, l _ _ z2, z3⟩
theorem x_bad {m : M β} : X fr m .bad Q F := .mk fun _ _ _ => trivial
theorem x_ite {m1 m2 : M β} {q : Bool} {t1 t2 : O τ} (h1 : X fr m1 t1 Q F) (h2 : X fr m2 t2 Q F) : X fr (fun e => if q then m1 e else m2 e) (if q then t1 else t2) Q F := by
  cases q with
  | true => exact h1
  | false => exact h2
/-- expressions whose value is shared, own -/
abbrev XE (fr : FD) (f : M Sl) (w : Tk) (t : O τ) (en : τ → D) (F : τ → FD) : Prop := X fr f t (RT w en) F
abbrev XT (fr : FD) (c : M Bool) (t : O τ) (b : τ → Bool) (F : τ → FD) : Prop := X fr c t (Rb b) F
theorem xe_tag {f : M Sl} {w : Tk} {en : τ → D} (h : XE fr f w t en F) : XE fr f .a t en F := x_rel h fun a b r => by
  cases w with
  | s => exact .inl r
  | o => exact .inr r
  | a => exact r
/-! names, constants -/
theorem xe_s {i : Nat} {a : τ} {en : τ → D} (h : fget fr i = some (.s (en a))) : XE fr (eVar i) .s (.ok a) en (fun _ => fr) := x_pure (b := .sh (en a)) (fun e suf hf => by
  obtain ⟨x, h1, h2⟩ := fits_get hf h
  cases (show x = _ from h2)
  exact ⟨e, by unfold eVar; rw [ap_get h1], hf⟩) rfl
theorem xe_o {i : Nat} {a : τ} {en : τ → D} (h : fget fr i = some (.o (en a))) : XE fr (eVar i) .s (.ok a) en (fun _ => fset fr i (.s (en a))) := x_pure (b := .sh (en a)) (fun e suf hf => by
  obtain ⟨x, h1, h2⟩ := fits_get hf h
  cases (show x = _ from h2)
  exact ⟨e.set i (some (.sh (en a))), by unfold eVar; rw [ap_get h1]; dsimp only; rw [ap_set h1], fits_set (show Fit (.s _) _ from rfl) hf⟩) rfl
theorem fset_get {s s' : SD} (l : Le1 s s') : ∀ {fr : FD} {e : Ev} {i : Nat} {x : Option Sl}, Fits fr e → fget fr i = some s' → e[i]? = some x → Fit s' x → Fits fr e := fun h _ _ _ => h
theorem xe_v {i : Nat} {a : τ} {en : τ → D} (h : fget fr i = some (.v (en a))) : XE fr (eVar i) .s (.ok a) en (fun _ => fset fr i (.s (en a))) := x_pure (b := .sh (en a)) (fun e suf hf => by
  obtain ⟨x, h1, h2⟩ := fits_get hf h
  refine ⟨e.set i (some (.sh (en a))), ?_, fits_set (show Fit (.s _) _ from rfl) hf⟩
  unfold eVar
  rw [ap_get h1]
  rcases h2 with h2 | h2
  · cases (show x = _ from h2)
    have il := List.getElem?_eq_some_iff.mp h1
    have : e.set i (some (.sh (en a))) = e := by
      apply List.ext_getElem?
      intro j
      by_cases hj : i = j
      · subst hj; rw [List.getElem?_set_self il.1, h1]
      · rw [List.getElem?_set_ne hj]
    rw [this]
  · cases (show x = _ from h2)
    dsimp only; rw [ap_set h1]) rfl
theorem xe_c {d : D} {a : τ} {en : τ → D} (h : d = en a) : XE fr (eC d) .s (.ok a) en (fun _ => fr) := x_same (fun e => rfl) (by subst h; rfl)
/-! operands -/
def kB {β : Type} (i : Nat) (kk : List D → M β) : List D → M β := fun ds e => match e[i]? with
  | some (some s) => kk (s.d :: ds) e
  | _ => .bad
abbrev XJ (fr : FD) (os : List Opd) (kk : List D → M β) (t : O τ) (Q : τ → β → Prop) (F : τ → FD) : Prop := X fr (fun e => bd (opsM os e) kk) t Q F
def dget (fr : FD) (i : Nat) : Option D := match fget fr i with
  | some (.s d) => some d
  | some (.o d) => some d
  | some (.v d) => some d
  | some (.m d) => some d
  | _ => none
theorem dget_ok {e : Ev} {i : Nat} {d : D} (hf : Fits fr e) (h : dget fr i = some d) : ∃ s, e[i]? = some (some s) ∧ s.d = d := by
  unfold dget at h
  cases hg : fget fr i with
  | none => rw [hg] at h; cases h
  | some s =>
    obtain ⟨x, h1, h2⟩ := fits_get hf hg
    rw [hg] at h
    cases s with
    | any => cases h
    | s d' => cases h; cases (show x = _ from h2); exact ⟨_, h1, rfl⟩
    | o d' => cases h; cases (show x = _ from h2); exact ⟨_, h1, rfl⟩
    | m d' => cases h; cases (show x = _ from h2); exact ⟨_, h1, rfl⟩
    | v d' => cases h; rcases h2 with h2 | h2 <;> (cases (show x = _ from h2); exact ⟨_, h1, rfl⟩)
theorem xj_nil {kk : List D → M β} (h : X fr (kk []) t Q F) : XJ fr [] kk t Q F := h
theorem xj_p {f : M Sl} {os : List Opd} {kk : List D → M β} {w : Tk} {a : τ0} {en : τ0 → D} {F0 : τ0 → FD} (h1 : XE fr f w (.ok a) en F0) (h2 : XJ (F0 a) os (fun ds => kk (en a :: ds)) t Q F) : XJ fr (.val f :: os) kk t Q F := by
  have e : (fun e => bd (opsM (.val f :: os) e) kk) = fun e => bd (f e) fun s e1 => bd (opsM os e1) fun ds e2 => kk (s.d :: ds) e2 := by
    funext e
    show bd (bd (f e) fun s e1 => bd (opsM os e1) fun ds e2 => .ok (s.d :: ds) e2) kk = _
    rw [bd_bd]
    congr 1
    funext s e1
    rw [bd_bd]
    rfl
  unfold XJ
  rw [e]
  exact x_bdP h1 fun b r => by rw [r.d]; exact h2
theorem xj_e {f : M Sl} {os : List Opd} {kk : List D → M β} {w : Tk} {t1 : O τ0} {en : τ0 → D} {F0 : τ0 → FD} {k' : τ0 → O τ} (h1 : XE fr f w t1 en F0) (h2 : ∀ a, XJ (F0 a) os (fun ds => kk (en a :: ds)) (k' a) Q F) : XJ fr (.val f :: os) kk (bnd t1 k') Q F := by
  have e : (fun e => bd (opsM (.val f :: os) e) kk) = fun e => bd (f e) fun s e1 => bd (opsM os e1) fun ds e2 => kk (s.d :: ds) e2 := by
    funext e
    show bd (bd (f e) fun s e1 => bd (opsM os e1) fun ds e2 => .ok (s.d :: ds) e2) kk = _
    rw [bd_bd]
    congr 1
    funext s e1
    rw [bd_bd]
    rfl
  unfold XJ
  rw [e]
  exact x_bd h1 fun a b r => by rw [r.d]; exact h2 a
theorem xj_b {i : Nat} {os : List Opd} {kk : List D → M β} {d0 : D} (h0 : dget fr i = some d0) (h : XJ fr os (kB i kk) t Q F) : XJ fr (.bor i :: os) kk t Q F := .mk fun e suf hf => by
  obtain ⟨s, h1, _⟩ := dget_ok hf h0
  have z := h.run e suf hf
  have e1 : (fun e => bd (opsM (.bor i :: os) e) kk) (e ++ suf) = (fun e => bd (opsM os e) (kB i kk)) (e ++ suf) := by
    show bd (match (e ++ suf)[i]? with | some (some _) => bd (opsM os (e ++ suf)) (fun ds e2 => match e2[i]? with | some (some s) => R.ok (s.d :: ds) e2 | _ => .bad) | _ => .bad) kk = _
    rw [ap_get h1]
    dsimp only
    rw [bd_bd]
    congr 1
    funext ds e2
    unfold kB
    cases e2[i]? with
    | none => rfl
    | some x => cases x <;> rfl
  have e1 : bd (opsM (.bor i :: os) (e ++ suf)) kk = bd (opsM os (e ++ suf)) (kB i kk) := e1
  rw [e1]
  exact z
theorem x_get {i : Nat} {ds : List D} {kk : List D → M β} {d : D} (h0 : dget fr i = some d) (h : X fr (kk (d :: ds)) t Q F) : X fr (kB i kk ds) t Q F := .mk fun e suf hf => by
  obtain ⟨s, h1, h2⟩ := dget_ok hf h0
  have z := h.run e suf hf
  have e1 : kB i kk ds (e ++ suf) = kk (d :: ds) (e ++ suf) := by
    unfold kB
    rw [ap_get h1]
    dsimp only
    rw [h2]
  rw [e1]
  exact z
/-- what an operation gives -/
structure GO (g : List D → Option Sl) (ds : List D) (w : Tk) (t : O τ) (en : τ → D) : Prop where
  go : onO t (fun a => ∃ s, g ds = some s ∧ RT w en a s) (fun _ => False)
theorem okG_rt {w : Tk} {en : τ → D} {a : τ} {s : Sl} {e : Ev} (r : RT w en a s) : okG (some s) e = .ok s e := by
  cases w with
  | s => cases (show s = _ from r); rfl
  | o => cases (show s = _ from r); rfl
  | a => rcases r with r | r <;> (cases (show s = _ from r); rfl)
theorem x_go {g : List D → Option Sl} {ds : List D} {w : Tk} {en : τ → D} (h : GO g ds w t en) : XE fr (kN g ds) w t en (fun _ => fr) := .mk fun e suf hf => by
  cases t with
  | bad => trivial
  | ex x => exact h.go.elim
  | ok a =>
    obtain ⟨s, h1, h2⟩ := h.go
    exact ⟨s, e, by unfold kN; rw [h1, okG_rt h2], h2, hf⟩
theorem xe_n {g : List D → Option Sl} {os : List Opd} {w : Tk} {en : τ → D} (h : XJ fr os (kN g) t (RT w en) F) : XE fr (eN g os) w t en F := h
theorem go_s {g : List D → Option Sl} {ds : List D} {a : τ} {en : τ → D} (h : g ds = some (.sh (en a))) : GO g ds .s (.ok a) en := ⟨⟨_, h, rfl⟩⟩
theorem go_o {g : List D → Option Sl} {ds : List D} {a : τ} {en : τ → D} (h : g ds = some (.ow (en a))) : GO g ds .o (.ok a) en := ⟨⟨_, h, rfl⟩⟩
theorem go_if {g : List D → Option Sl} {ds : List D} {c : Prop} [Decidable c] {w : Tk} {a : τ} {en : τ → D} (h : c → GO g ds w (.ok a) en) : GO g ds w (if c then .ok a else .bad) en := by
  by_cases q : c
  · rw [if_pos q]; exact h q
  · rw [if_neg q]; exact ⟨trivial⟩
/-! tests -/
theorem xt_b1 {f : M Sl} {en : τ → D} {b : τ → Bool} (h : XE fr f .s t en F) (hb : ∀ a, en a = .bl (b a)) : XT fr (tB1 f) t b F := .mk fun e suf hf => by
  have z := h.run e suf hf
  cases t with
  | bad => trivial
  | ex x => obtain ⟨e', z⟩ := z; exact ⟨e', by unfold tB1; rw [z]; rfl⟩
  | ok a =>
    obtain ⟨s, e', z1, z2, z3⟩ := z
    cases (show s = _ from z2)
    exact ⟨b a, e', by unfold tB1; rw [z1, hb]; rfl, rfl, z3⟩
theorem x_kTv {d : D} {a : τ} {b : τ → Bool} (h : truD d = some (b a)) : X fr (kTv [d]) (.ok a) (Rb b) (fun _ => fr) := x_same (b := b a) (fun e => by unfold kTv; dsimp only; rw [h]) rfl
theorem xt_val {o : Opd} {b : τ → Bool} (h : XJ fr [o] kTv t (Rb b) F) : XT fr (tVal o) t b F := h
theorem xt_not {c : M Bool} {b : τ → Bool} (h : XT fr c t b F) : XT fr (tNotM c) t (fun a => !b a) F := .mk fun e suf hf => by
  have z := h.run e suf hf
  cases t with
  | bad => trivial
  | ex x => obtain ⟨e', z⟩ := z; exact ⟨e', by unfold tNotM; rw [z]; rfl⟩
  | ok a =>
    obtain ⟨q, e', z1, z2, z3⟩ := z
    cases (show q = _ from z2)
    exact ⟨!b a, e', by unfold tNotM; rw [z1]; rfl, rfl, z3⟩
/-- both are told without failing -/
theorem xt_and {c c2 : M Bool} {a a2 : Bool} {F1 : Bool → FD} (h : XT fr c (.ok a) id F1) (h2 : XT (F1 a) c2 (.ok a2) id (fun _ => fr')) (l : FLe (F1 a) fr') : XT fr (tAndM c c2) (.ok (a && a2)) id (fun _ => fr') := by
  refine x_bdP h fun q r => ?_
  cases (show q = a from r)
  cases a with
  | true => exact h2
  | false => exact x_pure (b := false) (fun e suf hf => ⟨e, rfl, l _ hf⟩) rfl
theorem xt_or {c c2 : M Bool} {a a2 : Bool} {F1 : Bool → FD} (h : XT fr c (.ok a) id F1) (h2 : XT (F1 a) c2 (.ok a2) id (fun _ => fr')) (l : FLe (F1 a) fr') : XT fr (tOrM c c2) (.ok (a || a2)) id (fun _ => fr') := by
  refine x_bdP h fun q r => ?_
  cases (show q = a from r)
  cases a with
  | false => exact h2
  | true => exact x_pure (b := true) (fun e suf hf => ⟨e, rfl, l _ hf⟩) rfl
/-- the second may fail -/
theorem xt_andE {c c2 : M Bool} {a : Bool} {t2 : O Bool} {F1 : Bool → FD} (h : XT fr c (.ok a) id F1) (h2 : XT (F1 a) c2 t2 id (fun _ => fr')) (l : FLe (F1 a) fr') : XT fr (tAndM c c2) (if a then t2 else .ok false) id (fun _ => fr') := by
  refine x_bdP h fun q r => ?_
  cases (show q = a from r)
  cases a with
  | true => exact h2
  | false => exact x_pure (b := false) (fun e suf hf => ⟨e, rfl, l _ hf⟩) rfl
theorem xt_orE {c c2 : M Bool} {a : Bool} {t2 : O Bool} {F1 : Bool → FD} (h : XT fr c (.ok a) id F1) (h2 : XT (F1 a) c2 t2 id (fun _ => fr')) (l : FLe (F1 a) fr') : XT fr (tOrM c c2) (if a then .ok true else t2) id (fun _ => fr') := by
  refine x_bdP h fun q r => ?_
  cases (show q = a from r)
  cases a with
  | false => exact h2
  | true => exact x_pure (b := true) (fun e suf hf => ⟨e, rfl, l _ hf⟩) rfl
theorem xt_and2 {c c2 : M Bool} {t1 t2 : O Bool} (h : XT fr c t1 id (fun _ => fr')) (h2 : XT fr' c2 t2 id (fun _ => fr')) : XT fr (tAndM c c2) (bnd t1 fun a => if a then t2 else .ok false) id (fun _ => fr') := by
  refine x_bd h fun a q r => ?_
  cases (show q = a from r)
  cases a with
  | true => exact h2
  | false => exact x_pure (b := false) (fun e suf hf => ⟨e, rfl, hf⟩) rfl
theorem xt_or2 {c c2 : M Bool} {t1 t2 : O Bool} (h : XT fr c t1 id (fun _ => fr')) (h2 : XT fr' c2 t2 id (fun _ => fr')) : XT fr (tOrM c c2) (bnd t1 fun a => if a then .ok true else t2) id (fun _ => fr') := by
  refine x_bd h fun a q r => ?_
  cases (show q = a from r)
  cases a with
  | false => exact h2
  | true => exact x_pure (b := true) (fun e suf hf => ⟨e, rfl, hf⟩) rfl
theorem xt_yes : XT fr tYesM (.ok true) id (fun _ => fr) := x_same (b := true) (fun _ => rfl) rfl
/-! x if c else y -/
theorem xe_if {c : M Bool} {f g : M Sl} {a : Bool} {F1 : Bool → FD} {w : Tk} {t1 t2 : O τ} {en : τ → D} (h : XT fr c (.ok a) id F1) (h1 : XE (F1 a) f w t1 en F) (h2 : XE (F1 a) g w t2 en F) : XE fr (eIf c f g) w (if a then t1 else t2) en F := by
  refine x_bdP h fun q r => ?_
  cases (show q = a from r)
  cases a with
  | true => exact h1
  | false => exact h2
theorem xe_ifE {c : M Bool} {f g : M Sl} {t0 : O τ0} {b : τ0 → Bool} {F1 : τ0 → FD} {w : Tk} {t1 t2 : τ0 → O τ} {en : τ → D} (h : XT fr c t0 b F1) (h1 : ∀ a, XE (F1 a) f w (t1 a) en F) (h2 : ∀ a, XE (F1 a) g w (t2 a) en F) : XE fr (eIf c f g) w (bnd t0 fun a => if b a then t1 a else t2 a) en F := by
  refine x_bd h fun a q r => ?_
  cases (show q = b a from r)
  cases hq : b a with
  | true => exact h1 a
  | false => exact h2 a
/-! and, or, not of truths as values -/
theorem xe_and {f g : M Sl} {a : Bool} {w1 w2 : Tk} {F1 : Bool → FD} {t2 : O Bool} (h : XE fr f w1 (.ok a) D.bl F1) (h2 : XE (F1 a) g .s t2 D.bl (fun _ => fr')) (l : FLe (F1 a) fr') : XE fr (eAnd (.val f) g) .s (if a then t2 else .ok false) D.bl (fun _ => fr') := by
  show X fr (fun e => bd (opsM [.val f] e) (kAn g)) _ _ _
  refine xj_p h (xj_nil ?_)
  cases a with
  | true => exact h2
  | false => exact x_pure (b := .sh (.bl false)) (fun e suf hf => ⟨e, rfl, l _ hf⟩) rfl
theorem xe_andP {f g : M Sl} {a a2 : Bool} {w1 : Tk} {F1 : Bool → FD} (h : XE fr f w1 (.ok a) D.bl F1) (h2 : XE (F1 a) g .s (.ok a2) D.bl (fun _ => fr')) (l : FLe (F1 a) fr') : XE fr (eAnd (.val f) g) .s (.ok (a && a2)) D.bl (fun _ => fr') := by
  show X fr (fun e => bd (opsM [.val f] e) (kAn g)) _ _ _
  refine xj_p h (xj_nil ?_)
  cases a with
  | true => exact h2
  | false => exact x_pure (b := .sh (.bl false)) (fun e suf hf => ⟨e, rfl, l _ hf⟩) rfl
theorem xe_and2 {f g : M Sl} {w1 : Tk} {t1 t2 : O Bool} (h : XE fr f w1 t1 D.bl (fun _ => fr')) (h2 : XE fr' g .s t2 D.bl (fun _ => fr')) : XE fr (eAnd (.val f) g) .s (bnd t1 fun a => if a then t2 else .ok false) D.bl (fun _ => fr') := by
  show X fr (fun e => bd (opsM [.val f] e) (kAn g)) _ _ _
  refine xj_e h fun a => xj_nil ?_
  cases a with
  | true => exact h2
  | false => exact x_pure (b := .sh (.bl false)) (fun e suf hf => ⟨e, rfl, hf⟩) rfl
theorem xe_orP {f g : M Sl} {a a2 : Bool} {w1 : Tk} {F1 : Bool → FD} (h : XE fr f w1 (.ok a) D.bl F1) (h2 : XE (F1 a) g .s (.ok a2) D.bl (fun _ => fr')) (l : FLe (F1 a) fr') : XE fr (eOr (.val f) g) .s (.ok (a || a2)) D.bl (fun _ => fr') := by
  show X fr (fun e => bd (opsM [.val f] e) (kOr g)) _ _ _
  refine xj_p h (xj_nil ?_)
  cases a with
  | false => exact h2
  | true => exact x_pure (b := .sh (.bl true)) (fun e suf hf => ⟨e, rfl, l _ hf⟩) rfl
theorem xe_or {f g : M Sl} {a : Bool} {w1 : Tk} {F1 : Bool → FD} {t2 : O Bool} (h : XE fr f w1 (.ok a) D.bl F1) (h2 : XE (F1 a) g .s t2 D.bl (fun _ => fr')) (l : FLe (F1 a) fr') : XE fr (eOr (.val f) g) .s (if a then .ok true else t2) D.bl (fun _ => fr') := by
  show X fr (fun e => bd (opsM [.val f] e) (kOr g)) _ _ _
  refine xj_p h (xj_nil ?_)
  cases a with
  | false => exact h2
  | true => exact x_pure (b := .sh (.bl true)) (fun e suf hf => ⟨e, rfl, l _ hf⟩) rfl
theorem xe_or2 {f g : M Sl} {w1 : Tk} {t1 t2 : O Bool} (h : XE fr f w1 t1 D.bl (fun _ => fr')) (h2 : XE fr' g .s t2 D.bl (fun _ => fr')) : XE fr (eOr (.val f) g) .s (bnd t1 fun a => if a then .ok true else t2) D.bl (fun _ => fr') := by
  show X fr (fun e => bd (opsM [.val f] e) (kOr g)) _ _ _
  refine xj_e h fun a => xj_nil ?_
  cases a with
  | false => exact h2
  | true => exact x_pure (b := .sh (.bl true)) (fun e suf hf => ⟨e, rfl, hf⟩) rfl
/-- not x -/
theorem xe_not {f : M Sl} {w : Tk} {en : τ → D} {b : τ → Bool} (h : XE fr f w t en F) (hb : ∀ a, truD (en a) = some (b a)) : XE fr (eNot (.val f)) .s t (fun a => .bl (!b a)) F := .mk fun e suf hf => by
  have z := h.run e suf hf
  have k : eNot (.val f) (e ++ suf) = bd (opsM [.val f] (e ++ suf)) kNo := v_no
  cases t with
  | bad => trivial
  | ex x => obtain ⟨e', z⟩ := z; exact ⟨e', by rw [k]; show bd (bd (f _) _) _ = _; rw [z]; rfl⟩
  | ok a =>
    obtain ⟨s, e', z1, z2, z3⟩ := z
    refine ⟨.sh (.bl (!b a)), e', ?_, rfl, z3⟩
    rw [k]
    show bd (bd (f _) _) _ = _
    rw [z1]
    show bd (kTv [s.d] _) _ = _
    rw [z2.d]
    unfold kTv
    dsimp only
    rw [hb]
    rfl
theorem xe_notB {i : Nat} {a : τ} {b : τ → Bool} {d : D} (h : dget fr i = some d) (hb : truD d = some (b a)) : XE fr (eNot (.bor i)) .s (.ok a) (fun a => .bl (!b a)) (fun _ => fr) := .mk fun e suf hf => by
  obtain ⟨s, h1, h2⟩ := dget_ok hf h
  refine ⟨.sh (.bl (!b a)), e, ?_, rfl, hf⟩
  rw [v_no, v_ob, ap_get h1]
  show bd (kOe i [] (e ++ suf)) _ = _
  unfold kOe kOd
  rw [ap_get h1]
  show bd (kTv [s.d] _) _ = _
  rw [h2]
  unfold kTv
  dsimp only
  rw [hb]
  rfl
/-! chains -/
theorem x_kCh {f g : Int → Int → Bool} {o3 : Opd} {i j k : Int} (h : X fr (fun e => bd (opsM [o3] e) (kCh2 g j)) (.ok (g j k)) (RT .s D.bl) (fun _ => fr)) : XE fr (kCh f g o3 [.int i, .int j]) .s (.ok (f i j && g j k)) D.bl (fun _ => fr) := by
  cases hf : f i j with
  | true =>
    have e : kCh f g o3 [.int i, .int j] = fun e => bd (opsM [o3] e) (kCh2 g j) := by funext e; unfold kCh; simp only [hf, if_true]
    rw [e]; exact h
  | false => exact x_same (b := .sh (.bl false)) (fun e => by unfold kCh; simp only [hf, Bool.false_eq_true, if_false]) rfl
theorem x_kChE {f g : Int → Int → Bool} {o3 : Opd} {i j : Int} {t3 : O Bool} (h : X fr (fun e => bd (opsM [o3] e) (kCh2 g j)) t3 (RT .s D.bl) (fun _ => fr)) : XE fr (kCh f g o3 [.int i, .int j]) .s (if f i j then t3 else .ok false) D.bl (fun _ => fr) := by
  cases hf : f i j with
  | true =>
    have e : kCh f g o3 [.int i, .int j] = fun e => bd (opsM [o3] e) (kCh2 g j) := by funext e; unfold kCh; simp only [hf, if_true]
    rw [e]; exact h
  | false => exact x_same (b := .sh (.bl false)) (fun e => by unfold kCh; simp only [hf, Bool.false_eq_true, if_false]) rfl
theorem x_kCh2 {g : Int → Int → Bool} {j k : Int} : XE fr (kCh2 g j [.int k]) .s (.ok (g j k)) D.bl (fun _ => fr) := x_same (b := .sh (.bl (g j k))) (fun e => rfl) rfl
theorem xe_ch {f g : Int → Int → Bool} {o1 o2 o3 : Opd} {t : O Bool} {F : Bool → FD} (h : XJ fr [o1, o2] (kCh f g o3) t (RT .s D.bl) F) : XE fr (eChain f g o1 o2 o3) .s t D.bl F := h
theorem xe_int {f : M Sl} {F : Int → FD} {t : O Int} (h : XE fr f .s t D.int F) : XE fr (eInt f) .s t D.int F := .mk fun e suf hf => by
  have z := h.run e suf hf
  cases t with
  | bad => trivial
  | ex x => obtain ⟨e', z⟩ := z; exact ⟨e', by unfold eInt; rw [z]; rfl⟩
  | ok a =>
    obtain ⟨s, e', z1, z2, z3⟩ := z
    cases (show s = _ from z2)
    exact ⟨_, e', by unfold eInt; rw [z1]; rfl, rfl, z3⟩
end
end DL

end
section
set_option maxRecDepth 100000
set_option maxHeartbeats 2000000
/-! DX2: calls, methods, sources, targets, comprehensions. -/
namespace DL
open PySem PySem.Spec PyProof.Rows L2

/-! ### what a def gives -/
/-- how its result is told: the tag, the result, the parameter that it may change -/
structure RS (ρ : Type) where
  w : Tk
  en : ρ → D
  mi : Option Nat
  eo : ρ → D
structure RFk {ρ : Type} (rs : RS ρ) (r : RF) (t : O ρ) : Prop where
  go : onO t (fun a => ∃ s, r = .ok s (rs.eo a) ∧ RT rs.w rs.en a s) (fun x => rs.mi = none ∧ r = .exn x)
section
variable {α β γ τ τ1 τ0 ρ : Type} {fr fr' : FD} {Q : τ → β → Prop} {F : τ → FD} {t : O τ}
theorem okS_rt {w : Tk} {en : τ → D} {a : τ} {s : Sl} {e : Ev} (r : RT w en a s) : okS s e = .ok s e := by
  cases w with
  | s => cases (show s = _ from r); rfl
  | o => cases (show s = _ from r); rfl
  | a => rcases r with r | r <;> (cases (show s = _ from r); rfl)
/-- a def that changes no parameter -/
theorem x_ca {m : List D → RF} {os : List Opd} {ds : List D} {rs : RS τ} (h : RFk rs (m ds) t) (hm : rs.mi = none) : XE fr (kCa none m os ds) rs.w t rs.en (fun _ => fr) := .mk fun e suf hf => by
  rw [v_ca2]
  cases t with
  | bad => trivial
  | ex x => obtain ⟨_, h⟩ := h.go; exact ⟨e ++ suf, by rw [h]; rfl⟩
  | ok a =>
    obtain ⟨s, h1, h2⟩ := h.go
    exact ⟨s, e, by rw [h1, v_cn, okS_rt h2], h2, hf⟩
theorem xe_ca {m : List D → RF} {os : List Opd} {w : Tk} {en : τ → D} {mi : Option Nat} (h : XJ fr os (kCa mi m os) t (RT w en) F) : XE fr (eCall mi m os) w t en F := .mk fun e suf hf => by
  have z := h.run e suf hf
  have k : eCall mi m os (e ++ suf) = bd (opsM os (e ++ suf)) (kCa mi m os) := v_ca
  rw [k]
  exact z
/-- one that changes the thing of slot i -/
def SD.put : SD → D → SD
  | .o _, d => .o d
  | .m _, d => .m d
  | x, _ => x
def owM : SD → Bool
  | .o _ => true
  | .m _ => true
  | _ => false
theorem x_caM {m : List D → RF} {os : List Opd} {ds : List D} {rs : RS τ} {j i : Nat} {s0 : SD} (h : RFk rs (m ds) t) (hm : rs.mi = some j) (hj : os[j]? = some (.bor i)) (h0 : fget fr i = some s0) (ho : owM s0 = true) : XE fr (kCa (some j) m os ds) rs.w t rs.en (fun a => fset fr i (s0.put (rs.eo a))) := .mk fun e suf hf => by
  rw [v_ca2]
  obtain ⟨x, g1, g2⟩ := fits_get hf h0
  cases t with
  | bad => trivial
  | ex x => obtain ⟨h, _⟩ := h.go; rw [hm] at h; cases h
  | ok a =>
    obtain ⟨s, h1, h2⟩ := h.go
    rw [h1, v_cs, hj, v_c2, ap_get g1]
    cases s0 with
    | any => cases ho
    | s d => cases ho
    | v d => cases ho
    | o d => cases (show x = _ from g2); exact ⟨s, _, by rw [v_c3o, okS_rt h2, ap_set g1], h2, fits_set (show Fit (.o _) _ from rfl) hf⟩
    | m d => cases (show x = _ from g2); exact ⟨s, _, by rw [v_c3m, okS_rt h2, ap_set g1], h2, fits_set (show Fit (.m _) _ from rfl) hf⟩
/-- f(x) of a new thing that f may change -/
theorem xe_ca1 {m : List D → RF} {g : M Sl} {t1 : O τ0} {en1 : τ0 → D} {F1 : τ0 → FD} {rs : RS τ} {k : τ0 → O τ} (h1 : XE fr g .o t1 en1 F1) (h : ∀ a, RFk rs (m [en1 a]) (k a)) (hm : rs.mi = some 0) (hF : ∀ a, F1 a = fr') : XE fr (eCall1t m g) rs.w (bnd t1 k) rs.en (fun _ => fr') := by
  have e : eCall1t m g = fun e => bd (g e) (kC4 m) := by funext e; exact v_c1
  rw [e]
  refine x_bd h1 fun a b r => ?_
  cases (show b = _ from r)
  refine .mk fun e suf hf => ?_
  have z := (h a).go
  rw [v_c4]
  cases hk : k a with
  | bad => trivial
  | ex x => rw [hk] at z; obtain ⟨z, _⟩ := z; rw [hm] at z; cases z
  | ok q =>
    rw [hk] at z
    obtain ⟨s, z1, z2⟩ := z
    exact ⟨s, e, by rw [z1, v_c5, okS_rt z2], z2, by rw [← hF a]; exact hf⟩
/-! ### methods -/
/-- what a method of the thing d gives: the thing afterwards, the result -/
structure GM (g : D → List D → Option (D × D)) (d : D) (ds : List D) (t : O τ) (eo en : τ → D) : Prop where
  go : onO t (fun a => g d ds = some (eo a, en a)) (fun _ => False)
theorem x_kM2 {i : Nat} {g : D → List D → Option (D × D)} {ds : List D} {s0 : SD} {d : D} {eo en : τ → D} (h0 : fget fr i = some s0) (hd : s0 = .o d ∨ s0 = .m d) (h : GM g d ds t eo en) : XE fr (kM2 i g ds) .s t en (fun a => fset fr i (s0.put (eo a))) := .mk fun e suf hf => by
  obtain ⟨x, g1, g2⟩ := fits_get hf h0
  rw [v_mu2, ap_get g1]
  cases t with
  | bad => trivial
  | ex x => exact h.go.elim
  | ok a =>
    have h : g d ds = some (eo a, en a) := h.go
    rcases hd with rfl | rfl
    · cases (show x = _ from g2); exact ⟨.sh (en a), _, by rw [v_mu3, h, v_mu4, ap_set g1], rfl, fits_set (show Fit (.o _) _ from rfl) hf⟩
    · cases (show x = _ from g2); exact ⟨.sh (en a), _, by rw [v_mu3m, h, v_mu4m, ap_set g1], rfl, fits_set (show Fit (.m _) _ from rfl) hf⟩
theorem xe_mut {T : String} {i : Nat} {g : D → List D → Option (D × D)} {os : List Opd} {s0 : SD} {d : D} {en : τ → D} (h0 : fget fr i = some s0) (hd : s0 = .o d ∨ s0 = .m d) (hT : (tyD d == T) = true) (h : XJ fr os (kM2 i g) t (RT .s en) F) : XE fr (eMut T i g os) .s t en F := .mk fun e suf hf => by
  obtain ⟨x, g1, g2⟩ := fits_get hf h0
  have z := h.run e suf hf
  have k : eMut T i g os (e ++ suf) = bd (opsM os (e ++ suf)) (kM2 i g) := by
    rw [v_mu, ap_get g1]
    rcases hd with rfl | rfl
    · cases (show x = _ from g2)
      show (if (true && (tyD d == T)) = true then _ else R.bad) = _
      rw [hT]; rfl
    · cases (show x = _ from g2)
      show (if (true && (tyD d == T)) = true then _ else R.bad) = _
      rw [hT]; rfl
  rw [k]
  exact z
/-! ### what is walked -/
abbrev XI (fr : FD) (src : M (List D)) (t : O τ) (l : τ → List D) (F : τ → FD) : Prop := X fr src t (Rl l) F
theorem xi_v {f : M Sl} {w : Tk} {en : τ → D} {l : τ → List D} (h : XE fr f w t en F) (hl : ∀ a, seqD (en a) = some (l a)) : XI fr (srcV f) t l F := .mk fun e suf hf => by
  have z := h.run e suf hf
  cases t with
  | bad => trivial
  | ex x => obtain ⟨e', z⟩ := z; exact ⟨e', by unfold srcV; rw [z]; rfl⟩
  | ok a =>
    obtain ⟨s, e', z1, z2, z3⟩ := z
    exact ⟨l a, e', by unfold srcV; rw [z1, bd_ok, z2.d, hl], rfl, z3⟩
theorem xi_g {g : List D → Option (List D)} {os : List Opd} {l : τ → List D} (h : XJ fr os (kSrG g) t (Rl l) F) : XI fr (srcG g os) t l F := h
/-- what a source gives -/
structure GL (g : List D → Option (List D)) (ds : List D) (t : O τ) (l : τ → List D) : Prop where
  go : onO t (fun a => g ds = some (l a)) (fun _ => False)
theorem x_gl {g : List D → Option (List D)} {ds : List D} {l : τ → List D} (h : GL g ds t l) : XI fr (kSrG g ds) t l (fun _ => fr) := .mk fun e suf hf => by
  cases t with
  | bad => trivial
  | ex x => exact h.go.elim
  | ok a =>
    have h : g ds = some (l a) := h.go
    exact ⟨l a, e, by rw [v_sg2, h]; rfl, rfl, hf⟩
/-! ### targets -/
def TGs (fr : FD) (t : Tg) (d : D) (fr' : FD) : Prop := ∀ e suf, Fits fr e → ∃ e', setTg t d (e ++ suf) = some (e' ++ suf) ∧ Fits fr' e'
def TGss (fr : FD) (ts : List Tg) (ds : List D) (fr' : FD) : Prop := ∀ e suf, Fits fr e → ∃ e', setTgs ts ds (e ++ suf) = some (e' ++ suf) ∧ Fits fr' e'
def nmF (fr : FD) (i : Nat) : Bool := match fget fr i with
  | some (.m _) => false
  | some _ => true
  | none => false
theorem nmF_ok {e suf : Ev} {i : Nat} (hf : Fits fr e) (h : nmF fr i = true) : ∃ x, e[i]? = some x ∧ muO x = false ∧ muAt i (e ++ suf) = false := by
  unfold nmF at h
  cases hg : fget fr i with
  | none => rw [hg] at h; cases h
  | some s =>
    obtain ⟨x, h1, h2⟩ := fits_get hf hg
    rw [hg] at h
    have hx : muO x = false := by
      cases s with
      | m d => cases h
      | any => cases x with | none => rfl | some q => cases q <;> first | rfl | exact h2.elim
      | s d => cases (show x = _ from h2); rfl
      | o d => cases (show x = _ from h2); rfl
      | v d => rcases h2 with h2 | h2 <;> (cases (show x = _ from h2); rfl)
    refine ⟨x, h1, hx, ?_⟩
    unfold muAt
    rw [ap_get h1]
    cases x with
    | none => rfl
    | some q => cases q <;> first | rfl | cases hx
theorem tg_n {i : Nat} {d : D} (h : nmF fr i = true) : TGs fr (.nm i) d (fset fr i (.s d)) := fun e suf hf => by
  obtain ⟨x, h1, h2, h3⟩ := nmF_ok (suf := suf) hf h
  refine ⟨e.set i (some (.sh d)), ?_, fits_set (show Fit (.s _) _ from rfl) hf⟩
  rw [v_tg, ap_get h1, v_tg1 h2, ap_set h1]
theorem tg_0 : TGss fr [] [] fr := fun e suf hf => ⟨e, v_ts0, hf⟩
theorem tg_c {t : Tg} {ts : List Tg} {d : D} {ds : List D} {fr1 fr2 : FD} (h1 : TGs fr t d fr1) (h2 : TGss fr1 ts ds fr2) : TGss fr (t :: ts) (d :: ds) fr2 := fun e suf hf => by
  obtain ⟨e1, a1, a2⟩ := h1 e suf hf
  obtain ⟨e2, b1, b2⟩ := h2 e1 suf a2
  exact ⟨e2, by rw [v_ts, a1]; exact b1, b2⟩
theorem tg_t {ts : List Tg} {ds : List D} {fr1 : FD} (h : TGss fr ts ds fr1) : TGs fr (.tp ts) (.tup ds) fr1 := fun e suf hf => by
  obtain ⟨e1, a1, a2⟩ := h e suf hf
  exact ⟨e1, by rw [v_tp]; exact a1, a2⟩
/-! ### comprehensions -/
def wF1 : SD → SD := fun _ => .any
/-- slots forgotten -/
def wipeF (fr : FD) : List Nat → FD
  | [] => fr
  | v :: vs => fset (wipeF fr vs) v .any
def nmsF (fr : FD) (vs : List Nat) : Bool := vs.all (nmF fr)
theorem fits_wipe {e : Ev} (hf : Fits fr e) : ∀ vs, Fits (wipeF fr vs) (wipeE e vs)
  | [] => hf
  | v :: vs => fits_set (show Fit .any none from trivial) (fits_wipe hf vs)
theorem wipe_app {e suf : Ev} (hf : Fits fr e) : ∀ {vs : List Nat}, nmsF fr vs = true → wipeE (e ++ suf) vs = wipeE e vs ++ suf
  | [], _ => rfl
  | v :: vs, h => by
    have h' : nmF fr v = true ∧ nmsF fr vs = true := by simpa [nmsF] using h
    obtain ⟨x, h1, _, _⟩ := nmF_ok (suf := suf) hf h'.1
    have il : v < e.length := (List.getElem?_eq_some_iff.mp h1).1
    show (wipeE (e ++ suf) vs).set v none = (wipeE e vs).set v none ++ suf
    rw [wipe_app hf h'.2, List.set_append_left _ _ (by rw [wipeE_len]; exact il)]
theorem nms_ok {e suf : Ev} (hf : Fits fr e) {vs : List Nat} (h : nmsF fr vs = true) : noMu vs (e ++ suf) = true := by
  unfold noMu
  rw [List.all_eq_true]
  intro i hi
  obtain ⟨x, _, _, h3⟩ := nmF_ok (suf := suf) hf (List.all_eq_true.mp h i hi)
  rw [h3]; rfl
/-- what stands again behind a comprehension -/
def keepS : Option SD → SD
  | some (.s d) => .s d
  | _ => .any
def restF (fr0 fr : FD) : List Nat → FD
  | [] => fr
  | v :: vs => fset (restF fr0 fr vs) v (keepS (fget fr0 v))
theorem rest_app {e0 e suf suf0 : Ev} {fr0 : FD} (h0 : Fits fr0 e0) (hf : Fits fr e) : ∀ {vs : List Nat}, nmsF fr0 vs = true → nmsF fr vs = true → ∃ e', restE (e0 ++ suf0) (e ++ suf) vs = e' ++ suf ∧ Fits (restF fr0 fr vs) e' ∧ e'.length = e.length
  | [], _, _ => ⟨e, rfl, hf, rfl⟩
  | v :: vs, n0, h => by
    have n0' : nmF fr0 v = true ∧ nmsF fr0 vs = true := by simpa [nmsF] using n0
    have h' : nmF fr v = true ∧ nmsF fr vs = true := by simpa [nmsF] using h
    obtain ⟨x, h1, _, _⟩ := nmF_ok (suf := suf) hf h'.1
    obtain ⟨x0, g1, g2, _⟩ := nmF_ok (suf := suf0) h0 n0'.1
    have il : v < e.length := (List.getElem?_eq_some_iff.mp h1).1
    obtain ⟨e', a1, a2, a3⟩ := rest_app (suf := suf) (suf0 := suf0) h0 hf n0'.2 h'.2
    refine ⟨e'.set v (kRs (some x0)), ?_, ?_, by rw [List.length_set, a3]⟩
    · rw [v_re, a1, ap_get g1, List.set_append_left _ _ (by rw [a3]; exact il)]
    · refine fits_set ?_ a2
      cases hg : fget fr0 v with
      | none => unfold nmF at n0'; rw [hg] at n0'; exact absurd n0'.1 (by simp)
      | some s =>
        obtain ⟨y, y1, y2⟩ := fits_get h0 hg
        rw [g1] at y1; cases y1
        cases s with
        | s d => cases (show x0 = _ from y2); exact rfl
        | o d => cases (show x0 = _ from y2); trivial
        | any => cases x0 with | none => trivial | some q => cases q <;> first | trivial | cases g2
        | v d => rcases y2 with y2 | y2 <;> (cases (show x0 = _ from y2); trivial)
        | m d => unfold nmF at n0'; rw [hg] at n0'; exact absurd n0'.1 (by simp)
/-- a turn: the item that is kept, if any -/
def cBody (tst : M Bool) (elt : M Sl) : M (Option D) := fun e => bd (tst e) fun b e2 => if b then bd (elt e2) fun s e3 => .ok (some s.d) e3 else .ok none e2
def compS {σ : Type} (body : α → σ → O (Option β × σ)) : List α → σ → O (List β × σ)
  | [], s => .ok ([], s)
  | x :: xs, s => match body x s with
    | .ok (some y, s') => (match compS body xs s' with
      | .ok (ys, s2) => .ok (y :: ys, s2)
      | _ => .bad)
    | .ok (none, s') => compS body xs s'
    | _ => .bad
/-- a list comprehension -/
def compF {σ : Type} (xs : List α) (body : α → σ → O (Option β × σ)) (s : σ) : O (List β × σ) := if xs.length ≤ sizeLine then compS body xs s else .bad
def lenO (xs : List α) (r : τ) : O τ := if xs.length ≤ sizeLine then .ok r else .bad
theorem compM_cons {t : Tg} {vs : List Nat} {tst : M Bool} {elt : M Sl} {d : D} {ds : List D} {e : Ev} : compM t vs tst elt (d :: ds) e = match setTg t d e with
    | none => R.bad
    | some e1 => bd (tst e1) fun b e2 => if b then bd (elt e2) fun s e3 => (match accE s.d e3 with
        | some e4 => (match wipeC vs e4 with
          | some e5 => compM t vs tst elt ds e5
          | none => .bad)
        | none => .bad)
      else (match wipeC vs e2 with
        | some e5 => compM t vs tst elt ds e5
        | none => .bad) := rfl
theorem compS_run {σ : Type} {tg : Tg} {vs : List Nat} {tst : M Bool} {elt : M Sl} {enα : α → D} {enβ : β → D} {body : α → σ → O (Option β × σ)} {Fc : σ → FD} {Fb : α → σ → FD} {Fe : α → Option β × σ → FD}
    (ht : ∀ x s, TGs (Fc s) tg (enα x) (Fb x s)) (hb : ∀ x s, X (Fb x s) (cBody tst elt) (body x s) (fun r q => q = r.1.map enβ) (Fe x)) (hn : ∀ x r, nmsF (Fe x r) vs = true) (hw : ∀ x (r : Option β × σ), FLe (wipeF (Fe x r) vs) (Fc r.2)) :
    ∀ (xs : List α) (s : σ) (acc : List D) (e suf : Ev), Fits (Fc s) e → acc.length + xs.length ≤ sizeLine → onO (compS body xs s) (fun r => ∃ e', compM tg vs tst elt (xs.map enα) (e ++ (suf ++ [some (.ow (.lst acc))])) = .ok () (e' ++ (suf ++ [some (.ow (.lst (acc ++ r.1.map enβ)))])) ∧ Fits (Fc r.2) e') (fun _ => False)
  | [], s, acc, e, suf, hf, _ => ⟨e, by simp [compM], hf⟩
  | x :: xs, s, acc, e, suf, hf, hz => by
    rw [List.length_cons] at hz
    obtain ⟨e1, a1, a2⟩ := ht x s e (suf ++ [some (.ow (.lst acc))]) hf
    have b := (hb x s).run e1 (suf ++ [some (.ow (.lst acc))]) a2
    have cm : compM tg vs tst elt ((x :: xs).map enα) (e ++ (suf ++ [some (.ow (.lst acc))])) = bd (cBody tst elt (e1 ++ (suf ++ [some (.ow (.lst acc))]))) fun q e3 => (match q with
        | some d => (match accE d e3 with
          | some e4 => (match wipeC vs e4 with
            | some e5 => compM tg vs tst elt (xs.map enα) e5
            | none => .bad)
          | none => .bad)
        | none => (match wipeC vs e3 with
          | some e5 => compM tg vs tst elt (xs.map enα) e5
          | none => .bad)) := by
      rw [List.map_cons, compM_cons, a1]
      unfold cBody
      dsimp only
      rw [bd_bd]
      congr 1
      funext q e2
      cases q with
      | false => rw [if_neg Bool.false_ne_true, if_neg Bool.false_ne_true]; rfl
      | true =>
        rw [if_pos rfl, if_pos rfl, bd_bd]
        rfl
    rw [cm]
    unfold compS
    cases hbd : body x s with
    | bad => trivial
    | ex x => trivial
    | ok r =>
      rw [hbd] at b
      obtain ⟨q, e2, b1, b2, b3⟩ := b
      rw [b1, bd_ok]
      obtain ⟨o, s'⟩ := r
      have w : ∀ a, wipeC vs (e2 ++ (suf ++ [a])) = some (wipeE e2 vs ++ (suf ++ [a])) := fun a => by
        unfold wipeC
        rw [if_pos (nms_ok b3 (hn x _)), wipe_app b3 (hn x _)]
      have f2 := hw x _ _ (fits_wipe b3 vs)
      cases o with
      | none =>
        cases (show q = _ from b2)
        dsimp only [Option.map]
        rw [w]
        exact compS_run ht hb hn hw xs s' acc _ suf f2 (by omega)
      | some y =>
        cases (show q = _ from b2)
        dsimp only [Option.map]
        have ga : accE (enβ y) (e2 ++ (suf ++ [some (.ow (.lst acc))])) = some (e2 ++ (suf ++ [some (.ow (.lst (acc ++ [enβ y])))])) := by
          unfold accE
          rw [← List.append_assoc, List.getLast?_append]
          simp
          omega
        rw [ga]
        dsimp only
        rw [w]
        have ih := compS_run ht hb hn hw xs s' (acc ++ [enβ y]) _ suf f2 (by rw [List.length_append]; simp; omega)
        dsimp only
        cases hc : compS body xs s' with
        | bad => trivial
        | ex x => trivial
        | ok r2 =>
          rw [hc] at ih
          obtain ⟨ys, s2⟩ := r2
          obtain ⟨e', i1, i2⟩ := ih
          refine ⟨e', ?_, i2⟩
          dsimp only
          rw [i1]
          simp
/-- [.. for x in xs if ..], with what is changed while it is made -/
theorem xe_comp {σ : Type} {src : M (List D)} {tg : Tg} {vs : List Nat} {tst : M Bool} {elt : M Sl} {t1 : O τ0} {xs : τ0 → List α} {s0 : τ0 → σ} {enα : α → D} {enβ : β → D} {body : τ0 → α → σ → O (Option β × σ)} {F1 : τ0 → FD} {Fc : τ0 → σ → FD} {Fb : τ0 → α → σ → FD} {Fe : τ0 → α → Option β × σ → FD}
    (hs : XI fr src t1 (fun a => (xs a).map enα) F1) (n1 : ∀ a, nmsF (F1 a) vs = true) (h0 : ∀ a, FLe (wipeF (F1 a) vs) (Fc a (s0 a)))
    (ht : ∀ a x s, TGs (Fc a s) tg (enα x) (Fb a x s)) (hb : ∀ a x s, X (Fb a x s) (cBody tst elt) (body a x s) (fun r q => q = r.1.map enβ) (Fe a x)) (hn : ∀ a x r, nmsF (Fe a x r) vs = true) (hw : ∀ a x (r : Option β × σ), FLe (wipeF (Fe a x r) vs) (Fc a r.2)) (n2 : ∀ a s, nmsF (Fc a s) vs = true)
    {F' : List β × σ → FD} (hF : ∀ a (r : List β × σ), FLe (restF (F1 a) (Fc a r.2) vs) (F' r)) :
    XE fr (eComp src tg vs tst elt) .o (bnd t1 fun a => compF (xs a) (body a) (s0 a)) (fun r => .lst (r.1.map enβ)) F' := by
  refine x_bd hs fun a b r => ?_
  cases (show b = _ from r)
  refine .mk fun e suf hf => ?_
  unfold compF
  by_cases hz : (xs a).length ≤ sizeLine
  · rw [if_pos hz]
    have w : wipeE (e ++ suf) vs ++ [some (.ow (.lst []))] = wipeE e vs ++ (suf ++ [some (.ow (.lst []))]) := by rw [wipe_app hf (n1 a), List.append_assoc]
    have c := compS_run (tst := tst) (elt := elt) (ht a) (hb a) (hn a) (hw a) (xs a) (s0 a) [] (wipeE e vs) suf (h0 a _ (fits_wipe hf vs)) (by simpa using hz)
    simp only [if_pos (nms_ok hf (n1 a)), w]
    cases hc : compS (body a) (xs a) (s0 a) with
    | bad => trivial
    | ex x => rw [hc] at c; exact c.elim
    | ok r2 =>
      rw [hc] at c
      obtain ⟨ys, s2⟩ := r2
      obtain ⟨e', c1, c2⟩ := c
      obtain ⟨e2, d1, d2, _⟩ := rest_app (suf := suf) (suf0 := suf) hf c2 (n1 a) (n2 a s2)
      refine ⟨.ow (.lst (ys.map enβ)), e2, ?_, rfl, hF a _ _ d2⟩
      rw [c1]
      show bd (noEx (R.ok () (e' ++ (suf ++ [some (.ow (.lst ([] ++ ys.map enβ)))])))) _ = _
      simp only [noEx, bd_ok, popL, List.nil_append]
      rw [← List.append_assoc, List.getLast?_append, List.dropLast_concat]
      simp only [List.getLast?_singleton, Option.or_some, Option.some_or]
      rw [if_pos (nms_ok c2 (n2 a s2)), d1]
  · rw [if_neg hz]; trivial
theorem compS_pure {p : α → Bool} {f : α → β} : ∀ {xs : List α}, compS (fun x (_ : Unit) => .ok (if p x then some (f x) else none, ())) xs () = .ok ((xs.filter p).map f, ())
  | [] => rfl
  | x :: xs => by
    unfold compS
    cases hp : p x with
    | true =>
      have := compS_pure (p := p) (f := f) (xs := xs)
      simp only [if_true]
      rw [this, List.filter_cons_of_pos hp]
      rfl
    | false =>
      have := compS_pure (p := p) (f := f) (xs := xs)
      simp only [Bool.false_eq_true, if_false]
      rw [this, List.filter_cons_of_neg (by simp [hp])]
/-- turns that fail, perhaps, and change nothing -/
def compG (p : α → O Bool) (f : α → O β) : List α → O (List β)
  | [] => .ok []
  | x :: xs => match p x with
    | .ok true => (match f x with
      | .ok y => (match compG p f xs with
        | .ok ys => .ok (y :: ys)
        | _ => .bad)
      | _ => .bad)
    | .ok false => compG p f xs
    | _ => .bad
def compO (xs : List α) (p : α → O Bool) (f : α → O β) : O (List β) := if xs.length ≤ sizeLine then compG p f xs else .bad
theorem compG_S {p : α → O Bool} {f : α → O β} : ∀ xs, compS (fun x (_ : Unit) => bnd (p x) fun b => if b then bnd (f x) fun y => .ok (some y, ()) else .ok (none, ())) xs () = match compG p f xs with
    | .ok ys => .ok (ys, ())
    | _ => .bad
  | [] => rfl
  | x :: xs => by
    unfold compS compG
    cases hp : p x with
    | bad => rfl
    | ex x => rfl
    | ok b =>
      cases b with
      | false =>
        simp only [bnd_ok, Bool.false_eq_true, if_false]
        rw [compG_S xs]
      | true =>
        simp only [bnd_ok, if_true]
        cases hf : f x with
        | bad => rfl
        | ex x => rfl
        | ok y =>
          simp only [bnd_ok]
          rw [compG_S xs]
          cases compG p f xs <;> rfl
theorem x_cBody {tst : M Bool} {elt : M Sl} {p : O Bool} {f : O β} {enβ : β → D} {w : Tk} {fb fb' : FD} (h1 : XT fb tst p id (fun _ => fb')) (h2 : XE fb' elt w f enβ (fun _ => fb')) : X fb (cBody tst elt) (bnd p fun b => if b then bnd f fun y => .ok (some y, ()) else .ok (none, ())) (fun (r : Option β × Unit) q => q = r.1.map enβ) (fun _ => fb') := by
  refine x_bd h1 fun a q r => ?_
  cases (show q = a from r)
  cases a with
  | false => exact x_same (b := none) (fun e => rfl) rfl
  | true => exact x_bd h2 fun a s r => x_same (b := some (enβ a)) (fun e => by rw [r.d]) rfl
/-- a comprehension whose turns may fail and change nothing -/
theorem xe_compO {src : M (List D)} {tg : Tg} {vs : List Nat} {tst : M Bool} {elt : M Sl} {t1 : O τ0} {xs : τ0 → List α} {enα : α → D} {enβ : β → D} {p : τ0 → α → O Bool} {f : τ0 → α → O β} {w : Tk} {F1 : τ0 → FD} {fc : FD} {Fb Fb' : α → FD}
    (hs : XI fr src t1 (fun a => (xs a).map enα) F1) (n1 : ∀ a, nmsF (F1 a) vs = true) (h0 : ∀ a, FLe (wipeF (F1 a) vs) fc)
    (ht : ∀ x, TGs fc tg (enα x) (Fb x)) (hb : ∀ a x, XT (Fb x) tst (p a x) id (fun _ => Fb' x)) (he : ∀ a x, XE (Fb' x) elt w (f a x) enβ (fun _ => Fb' x)) (hn : ∀ x, nmsF (Fb' x) vs = true) (hw : ∀ x, FLe (wipeF (Fb' x) vs) fc) (n2 : nmsF fc vs = true)
    (hF : ∀ a, FLe (restF (F1 a) fc vs) fr') :
    XE fr (eComp src tg vs tst elt) .o (bnd t1 fun a => compO (xs a) (p a) (f a)) (fun r => .lst (r.map enβ)) (fun _ => fr') := by
  have z := xe_comp (σ := Unit) (body := fun a x _ => bnd (p a x) fun b => if b then bnd (f a x) fun y => .ok (some y, ()) else .ok (none, ())) (s0 := fun _ => ()) (Fc := fun _ _ => fc) (Fb := fun _ x _ => Fb x) (Fe := fun _ x _ => Fb' x) (F' := fun _ => fr') hs n1 h0 (fun a x _ => ht x) (fun a x _ => x_cBody (hb a x) (he a x)) (fun a x _ => hn x) (fun a x _ => hw x) (fun a _ => n2) (fun a _ => hF a)
  refine .mk fun e suf hf => ?_
  have y := z.run e suf hf
  cases t1 with
  | bad => trivial
  | ex x => exact y
  | ok a =>
    rw [bnd_ok] at y ⊢
    unfold compF at y
    unfold compO
    by_cases hz : (xs a).length ≤ sizeLine
    · rw [if_pos hz] at y ⊢
      rw [compG_S] at y
      cases hc : compG (p a) (f a) (xs a) with
      | bad => trivial
      | ex x => 
        have : ∀ xs : List α, ∀ x, compG (p a) (f a) xs ≠ .ex x := by
          intro xs
          induction xs with
          | nil => intro x h; cases h
          | cons y ys ih =>
            intro x h
            unfold compG at h
            cases hp : p a y with
            | bad => rw [hp] at h; cases h
            | ex x => rw [hp] at h; cases h
            | ok b =>
              rw [hp] at h
              cases b with
              | false => exact ih x h
              | true =>
                dsimp only at h
                cases hfy : f a y with
                | bad => rw [hfy] at h; cases h
                | ex x => rw [hfy] at h; cases h
                | ok z =>
                  rw [hfy] at h
                  dsimp only at h
                  cases hg : compG (p a) (f a) ys <;> rw [hg] at h <;> cases h
        exact absurd hc (this _ _)
      | ok ys =>
        rw [hc] at y
        obtain ⟨b, e', y1, y2, y3⟩ := y
        exact ⟨b, e', y1, y2, y3⟩
    · rw [if_neg hz]; trivial
/-- a comprehension whose turns are told without failing -/
theorem xe_compP {src : M (List D)} {tg : Tg} {vs : List Nat} {tst : M Bool} {elt : M Sl} {t1 : O τ0} {xs : τ0 → List α} {enα : α → D} {enβ : β → D} {p : τ0 → α → Bool} {f : τ0 → α → β} {w : Tk} {F1 : τ0 → FD} {fc : FD} {Fb Fb' : α → FD}
    (hs : XI fr src t1 (fun a => (xs a).map enα) F1) (n1 : ∀ a, nmsF (F1 a) vs = true) (h0 : ∀ a, FLe (wipeF (F1 a) vs) fc)
    (ht : ∀ x, TGs fc tg (enα x) (Fb x)) (hb : ∀ a x, XT (Fb x) tst (.ok (p a x)) id (fun _ => Fb' x)) (he : ∀ a x, XE (Fb' x) elt w (.ok (f a x)) enβ (fun _ => Fb' x)) (hn : ∀ x, nmsF (Fb' x) vs = true) (hw : ∀ x, FLe (wipeF (Fb' x) vs) fc) (n2 : nmsF fc vs = true)
    (hF : ∀ a, FLe (restF (F1 a) fc vs) fr') :
    XE fr (eComp src tg vs tst elt) .o (bnd t1 fun a => lenO (xs a) (((xs a).filter (p a)).map (f a))) (fun r => .lst (r.map enβ)) (fun _ => fr') := by
  have z := xe_compO (p := fun a x => .ok (p a x)) (f := fun a x => .ok (f a x)) hs n1 h0 ht hb he hn hw n2 hF
  have k : ∀ a, ∀ xs : List α, compG (fun x => .ok (p a x)) (fun x => O.ok (f a x)) xs = .ok ((xs.filter (p a)).map (f a)) := by
    intro a xs
    induction xs with
    | nil => rfl
    | cons x xs ih =>
      unfold compG
      dsimp only
      cases hp : p a x with
      | true => dsimp only; rw [ih, List.filter_cons_of_pos hp]; rfl
      | false => dsimp only; rw [ih, List.filter_cons_of_neg (by simp [hp])]
  have e : (fun a => compO (xs a) (fun x => .ok (p a x)) (fun x => O.ok (f a x))) = fun a => lenO (xs a) (((xs a).filter (p a)).map (f a)) := by
    funext a
    unfold compO lenO
    rw [k]
  rw [e] at z
  exact z
theorem xe_compM {src : M (List D)} {tg : Tg} {vs : List Nat} {elt : M Sl} {t1 : O τ0} {xs : τ0 → List α} {enα : α → D} {enβ : β → D} {f : τ0 → α → β} {w : Tk} {F1 : τ0 → FD} {fc : FD} {Fb : α → FD}
    (hs : XI fr src t1 (fun a => (xs a).map enα) F1) (n1 : ∀ a, nmsF (F1 a) vs = true) (h0 : ∀ a, FLe (wipeF (F1 a) vs) fc)
    (ht : ∀ x, TGs fc tg (enα x) (Fb x)) (he : ∀ a x, XE (Fb x) elt w (.ok (f a x)) enβ (fun _ => Fb x)) (hn : ∀ x, nmsF (Fb x) vs = true) (hw : ∀ x, FLe (wipeF (Fb x) vs) fc) (n2 : nmsF fc vs = true)
    (hF : ∀ a, FLe (restF (F1 a) fc vs) fr') :
    XE fr (eComp src tg vs tYesM elt) .o (bnd t1 fun a => lenO (xs a) ((xs a).map (f a))) (fun r => .lst (r.map enβ)) (fun _ => fr') := by
  have z := xe_compP (p := fun _ _ => true) hs n1 h0 ht (fun a x => xt_yes) he hn hw n2 hF
  have e : (fun a => lenO (xs a) (((xs a).filter fun _ => true).map (f a))) = fun a => lenO (xs a) ((xs a).map (f a)) := by funext a; rw [filter_yes]
  rw [e] at z
  exact z
end
end DL

end
section
set_option maxRecDepth 100000
set_option maxHeartbeats 2000000
/-! DX3: statements, loops, defs. -/
namespace DL
open PySem PySem.Spec PyProof.Rows L2

/-- how a statement ends: σ what stands behind it, κ behind a turn of the loop around it, ρ what is returned -/
inductive Fw (σ κ ρ : Type) where
  | nx (s : σ) | bk (s : κ) | ct (s : κ) | rt (r : ρ)
section
variable {α β τ τ1 τ0 σ σ1 κ ρ : Type}
def seqF (t : O (Fw σ1 κ ρ)) (k : σ1 → O (Fw σ κ ρ)) : O (Fw σ κ ρ) := match t with
  | .ok (.nx s) => k s
  | .ok (.bk s) => .ok (.bk s)
  | .ok (.ct s) => .ok (.ct s)
  | .ok (.rt r) => .ok (.rt r)
  | .ex x => .ex x
  | .bad => .bad
theorem seqF_nx {s : σ1} {k : σ1 → O (Fw σ κ ρ)} : seqF (.ok (.nx s)) k = k s := rfl
theorem seqF_rt {r : ρ} {k : σ1 → O (Fw σ κ ρ)} : seqF (.ok (.rt r)) k = .ok (.rt r) := rfl
theorem seqF_bk {s : κ} {k : σ1 → O (Fw σ κ ρ)} : seqF (.ok (.bk s)) k = .ok (.bk s) := rfl
theorem seqF_ct {s : κ} {k : σ1 → O (Fw σ κ ρ)} : seqF (.ok (.ct s)) k = .ok (.ct s) := rfl
theorem seqF_bad {k : σ1 → O (Fw σ κ ρ)} : seqF .bad k = .bad := rfl
theorem seqF_ex {x : Ex} {k : σ1 → O (Fw σ κ ρ)} : seqF (.ex x) k = .ex x := rfl
def loopF (t : O (Fw σ σ ρ)) (k : σ → O (Fw σ κ ρ)) : O (Fw σ κ ρ) := match t with
  | .ok (.nx s) => k s
  | .ok (.ct s) => k s
  | .ok (.bk s) => .ok (.nx s)
  | .ok (.rt r) => .ok (.rt r)
  | .ex x => .ex x
  | .bad => .bad
def forF (body : α → σ → O (Fw σ σ ρ)) : List α → σ → O (Fw σ κ ρ)
  | [], s => .ok (.nx s)
  | x :: xs, s => loopF (body x s) (forF body xs)
def whF (c : σ → O Bool) (body : σ → O (Fw σ σ ρ)) : Nat → σ → O (Fw σ κ ρ)
  | 0, _ => .bad
  | n + 1, s => bnd (c s) fun b => if b then loopF (body s) (whF c body n) else .ok (.nx s)
/-- a def's result -/
def finR (t : O (Fw σ κ ρ)) : O ρ := match t with
  | .ok (.rt r) => .ok r
  | .ex x => .ex x
  | _ => .bad
/-- of a def that may end without return -/
def finN (t : O (Fw σ κ ρ)) (k : σ → ρ) : O ρ := match t with
  | .ok (.rt r) => .ok r
  | .ok (.nx s) => .ok (k s)
  | .ex x => .ex x
  | _ => .bad
theorem finR_rt {r : ρ} : finR (.ok (.rt r) : O (Fw σ κ ρ)) = .ok r := rfl
theorem finN_rt {r : ρ} {k : σ → ρ} : finN (.ok (.rt r) : O (Fw σ κ ρ)) k = .ok r := rfl
theorem finN_nx {s : σ} {k : σ → ρ} : finN (.ok (.nx s) : O (Fw σ κ ρ)) k = .ok (k s) := rfl
def OutOk (fr : FD) (rs : RS ρ) (r : ρ) : Prop := match rs.mi with
  | none => rs.eo r = .non
  | some j => fget fr j = some (.m (rs.eo r))
theorem out_ok {fr : FD} {rs : RS ρ} {r : ρ} {e : Ev} (hf : Fits fr e) (h : OutOk fr rs r) : outOf rs.mi e = rs.eo r := by
  unfold OutOk at h
  cases hm : rs.mi with
  | none => rw [hm] at h; exact h.symm
  | some j =>
    rw [hm] at h
    obtain ⟨x, h1, h2⟩ := fits_get hf h
    cases (show x = _ from h2)
    show (match e[j]? with | some (some s) => s.d | _ => .non) = _
    rw [h1]
    rfl
/-- THE JUDGEMENT for statements -/
structure XS (fr : FD) (f : M Fl) (t : O (Fw σ κ ρ)) (F : σ → FD) (G : κ → FD) (rs : RS ρ) : Prop where
  run : ∀ e, Fits fr e → onO t (fun fl => match fl with
  | .nx s => ∃ e', f e = .ok .nx e' ∧ Fits (F s) e'
  | .bk s => ∃ e', f e = .ok .bk e' ∧ Fits (G s) e'
  | .ct s => ∃ e', f e = .ok .ct e' ∧ Fits (G s) e'
  | .rt r => ∃ s e', f e = .ok (.rt s) e' ∧ RT rs.w rs.en r s ∧ outOf rs.mi e' = rs.eo r) (fun x => ∃ e', f e = .exn x e')
variable {fr fr' : FD} {F : σ → FD} {G : κ → FD} {rs : RS ρ} {t : O (Fw σ κ ρ)} {g : M Fl}
theorem X0 {fr : FD} {m : M β} {t : O τ} {Q : τ → β → Prop} {F : τ → FD} (h : X fr m t Q F) (e : Ev) (hf : Fits fr e) : onO t (fun a => ∃ b e', m e = .ok b e' ∧ Q a b ∧ Fits (F a) e') (fun x => ∃ e', m e = .exn x e') := by
  have z := h.run e [] hf
  simpa only [List.append_nil] using z
theorem xs_eq {f f' : M Fl} (h : XS fr f' t F G rs) (e : ∀ ev, f ev = f' ev) : XS fr f t F G rs := by rw [show f = f' from funext e]; exact h
theorem xs_le {f : M Fl} (l : FLe fr fr') (h : XS fr' f t F G rs) : XS fr f t F G rs := .mk fun e hf => h.run e (l e hf)
theorem xs_last {f : M Fl} (h : XS fr (sSeq f sNx) t F G rs) : XS fr f t F G rs := xs_eq h fun e => by
  unfold sSeq
  cases f e with
  | ok fl e' => cases fl <;> rfl
  | exn x e' => rfl
  | bad => rfl
theorem xs_assoc {f1 f2 g : M Fl} (h : XS fr (sSeq f1 (sSeq f2 g)) t F G rs) : XS fr (sSeq (sSeq f1 f2) g) t F G rs := xs_eq h fun e => by
  unfold sSeq
  cases f1 e with
  | ok fl e' => cases fl <;> rfl
  | exn x e' => rfl
  | bad => rfl
theorem xs_nx {s : σ} (l : FLe fr (F s)) : XS fr sNx (.ok (.nx s)) F G rs := .mk fun e hf => ⟨e, rfl, l e hf⟩
theorem xs_pass {g : M Fl} (h : XS fr g t F G rs) : XS fr (sSeq sNx g) t F G rs := xs_eq h fun e => rfl
theorem xs_bk {s : κ} {g : M Fl} (l : FLe fr (G s)) : XS fr (sSeq sBk g) (.ok (.bk s)) F G rs := .mk fun e hf => ⟨e, rfl, l e hf⟩
theorem xs_ct {s : κ} {g : M Fl} (l : FLe fr (G s)) : XS fr (sSeq sCt g) (.ok (.ct s)) F G rs := .mk fun e hf => ⟨e, rfl, l e hf⟩
theorem xs_bad {f : M Fl} : XS fr f .bad F G rs := .mk fun e hf => trivial
/-- from an expression to a statement -/
theorem xs_bd {f : M α} {k : α → Ev → R Fl} {t1 : O τ1} {Q : τ1 → α → Prop} {F1 : τ1 → FD} {kt : τ1 → O (Fw σ κ ρ)} (h : X fr f t1 Q F1) (h2 : ∀ a b, Q a b → XS (F1 a) (k b) (kt a) F G rs) : XS fr (fun e => bd (f e) k) (bnd t1 kt) F G rs := .mk fun e hf => by
  have z := X0 h e hf
  cases t1 with
  | bad => trivial
  | ex x => obtain ⟨e', z⟩ := z; exact ⟨e', by show bd _ _ = _; rw [z]; rfl⟩
  | ok a =>
    obtain ⟨b, e', z1, z2, z3⟩ := z
    have y := (h2 a b z2).run e' z3
    rw [bnd_ok]
    have q : (fun e => bd (f e) k) e = k b e' := by show bd _ _ = _; rw [z1]; rfl
    dsimp only at q
    cases hk : kt a with
    | bad => trivial
    | ex x => rw [hk] at y; obtain ⟨e2, y⟩ := y; exact ⟨e2, by rw [q]; exact y⟩
    | ok fl =>
      rw [hk] at y
      cases fl with
      | nx s => obtain ⟨e2, y1, y2⟩ := y; exact ⟨e2, by rw [q]; exact y1, y2⟩
      | bk s => obtain ⟨e2, y1, y2⟩ := y; exact ⟨e2, by rw [q]; exact y1, y2⟩
      | ct s => obtain ⟨e2, y1, y2⟩ := y; exact ⟨e2, by rw [q]; exact y1, y2⟩
      | rt r => obtain ⟨s, e2, y1, y2⟩ := y; exact ⟨s, e2, by rw [q]; exact y1, y2⟩
theorem xs_bdP {f : M α} {k : α → Ev → R Fl} {a : τ1} {Q : τ1 → α → Prop} {F1 : τ1 → FD} (h : X fr f (.ok a) Q F1) (h2 : ∀ b, Q a b → XS (F1 a) (k b) t F G rs) : XS fr (fun e => bd (f e) k) t F G rs := .mk fun e hf => by
  obtain ⟨b, e', z1, z2, z3⟩ := X0 h e hf
  have y := (h2 b z2).run e' z3
  have q : bd (f e) k = k b e' := by rw [z1]; rfl
  cases t with
  | bad => trivial
  | ex x => obtain ⟨e2, y⟩ := y; exact ⟨e2, by rw [q]; exact y⟩
  | ok fl =>
    cases fl with
    | nx s => obtain ⟨e2, y1, y2⟩ := y; exact ⟨e2, by rw [q]; exact y1, y2⟩
    | bk s => obtain ⟨e2, y1, y2⟩ := y; exact ⟨e2, by rw [q]; exact y1, y2⟩
    | ct s => obtain ⟨e2, y1, y2⟩ := y; exact ⟨e2, by rw [q]; exact y1, y2⟩
    | rt r => obtain ⟨s, e2, y1, y2⟩ := y; exact ⟨s, e2, by rw [q]; exact y1, y2⟩
theorem seq_bd {f : M α} {k : α → Ev → R Fl} (e : Ev) : seqM (bd (f e) k) g = bd (f e) fun a e' => seqM (k a e') g := by cases f e <;> rfl
/-- the slot i is set -/
theorem xs_set {i : Nat} {x : Sl} {d : SD} (n : nmF fr i = true) (hx : Fit d (some x)) (nm : x.isMu = false) (h : XS (fset fr i d) g t F G rs) : XS fr (fun e => seqM (setE i x e) g) t F G rs := .mk fun e hf => by
  obtain ⟨y, h1, h2, h3⟩ := nmF_ok (suf := []) hf n
  rw [List.append_nil] at h3
  have q : seqM (setE i x e) g = g (e.set i (some x)) := by
    unfold setE
    rw [h3, nm]
    rfl
  have z := h.run _ (fits_set hx hf)
  rw [q]
  exact z
theorem xs_asg {i : Nat} {f : M Sl} {w : Tk} {t1 : O τ1} {en : τ1 → D} {F1 : τ1 → FD} {k : τ1 → O (Fw σ κ ρ)} (h : XE fr f w t1 en F1) (n : ∀ a, nmF (F1 a) i = true) (h2 : ∀ a, XS (fset (F1 a) i (w.sd (en a))) g (k a) F G rs) : XS fr (sSeq (sAsg i f) g) (bnd t1 k) F G rs :=
  xs_eq (xs_bd h fun a b r => xs_set (n a) r.fit r.nm (h2 a)) fun e => by rw [sSeq_eq, v_as, seq_bd]
theorem xs_asgP {i : Nat} {f : M Sl} {w : Tk} {a : τ1} {en : τ1 → D} {F1 : τ1 → FD} (h : XE fr f w (.ok a) en F1) (n : nmF (F1 a) i = true) (h2 : XS (fset (F1 a) i (w.sd (en a))) g t F G rs) : XS fr (sSeq (sAsg i f) g) t F G rs :=
  xs_eq (xs_bdP h fun b r => xs_set n r.fit r.nm h2) fun e => by rw [sSeq_eq, v_as, seq_bd]
theorem xs_let {i : Nat} {f : M Sl} {w : Tk} {a : τ1} {en : τ1 → D} {F1 : τ1 → FD} {k : τ1 → O (Fw σ κ ρ)} (h : XE fr f w (.ok a) en F1) (n : ∀ a, nmF (F1 a) i = true) (h2 : ∀ a, XS (fset (F1 a) i (w.sd (en a))) g (k a) F G rs) : XS fr (sSeq (sAsg i f) g) (lt a k) F G rs := xs_asgP h (n a) (h2 a)
theorem xs_exp {f : M Sl} {w : Tk} {t1 : O τ1} {en : τ1 → D} {F1 : τ1 → FD} {k : τ1 → O (Fw σ κ ρ)} (h : XE fr f w t1 en F1) (h2 : ∀ a, XS (F1 a) g (k a) F G rs) : XS fr (sSeq (sExpr f) g) (bnd t1 k) F G rs :=
  xs_eq (xs_bd h fun a b r => h2 a) fun e => by rw [sSeq_eq, v_ex, seq_bd]; rfl
theorem xs_expP {f : M Sl} {w : Tk} {a : τ1} {en : τ1 → D} {F1 : τ1 → FD} (h : XE fr f w (.ok a) en F1) (h2 : XS (F1 a) g t F G rs) : XS fr (sSeq (sExpr f) g) t F G rs :=
  xs_eq (xs_bdP h fun b r => h2) fun e => by rw [sSeq_eq, v_ex, seq_bd]; rfl
theorem xs_unp {tg : Tg} {f : M Sl} {w : Tk} {t1 : O τ1} {en : τ1 → D} {F1 F2 : τ1 → FD} {k : τ1 → O (Fw σ κ ρ)} (h : XE fr f w t1 en F1) (ht : ∀ a, TGs (F1 a) tg (en a) (F2 a)) (h2 : ∀ a, XS (F2 a) g (k a) F G rs) : XS fr (sSeq (sUnp tg f) g) (bnd t1 k) F G rs :=
  xs_eq (xs_bd (k := fun s e => seqM (kUnp tg s e) g) h fun a b r => .mk fun e hf => by
    obtain ⟨e', h1, h3⟩ := ht a e [] hf
    rw [List.append_nil, List.append_nil] at h1
    have z := (h2 a).run e' h3
    have q : seqM (kUnp tg b e) g = g e' := by rw [v_un2, r.d, h1]; rfl
    rw [q]
    exact z) fun e => by rw [sSeq_eq, v_un, seq_bd]
theorem xs_unpP {tg : Tg} {f : M Sl} {w : Tk} {a : τ1} {en : τ1 → D} {F1 : τ1 → FD} {fr2 : FD} (h : XE fr f w (.ok a) en F1) (ht : TGs (F1 a) tg (en a) fr2) (h2 : XS fr2 g t F G rs) : XS fr (sSeq (sUnp tg f) g) t F G rs :=
  xs_eq (xs_bdP (k := fun s e => seqM (kUnp tg s e) g) h fun b r => .mk fun e hf => by
    obtain ⟨e', h1, h3⟩ := ht e [] hf
    rw [List.append_nil, List.append_nil] at h1
    have z := h2.run e' h3
    have q : seqM (kUnp tg b e) g = g e' := by rw [v_un2, r.d, h1]; rfl
    rw [q]
    exact z) fun e => by rw [sSeq_eq, v_un, seq_bd]
inductive PQ : List SD → List Sl → Prop
  | nil : PQ [] []
  | cons {p : SD} {q : Sl} {ps : List SD} {qs : List Sl} : (Fit p (some q) ∧ q.isMu = false) → PQ ps qs → PQ (p :: ps) (q :: qs)
/-! several names at once: the values first -/
def XP (fr : FD) (fs : List (M Sl)) (ps : List SD) (is : List Nat) (g : M Fl) (t : O (Fw σ κ ρ)) (F : σ → FD) (G : κ → FD) (rs : RS ρ) : Prop := ∀ qs : List Sl, PQ ps qs → ∀ e, Fits fr e → onO t (fun fl => match fl with
  | .nx s => ∃ e', seqM (bd (parM fs (e ++ qs.map some)) (kPr is)) g = .ok .nx e' ∧ Fits (F s) e'
  | .bk s => ∃ e', seqM (bd (parM fs (e ++ qs.map some)) (kPr is)) g = .ok .bk e' ∧ Fits (G s) e'
  | .ct s => ∃ e', seqM (bd (parM fs (e ++ qs.map some)) (kPr is)) g = .ok .ct e' ∧ Fits (G s) e'
  | .rt r => ∃ s e', seqM (bd (parM fs (e ++ qs.map some)) (kPr is)) g = .ok (.rt s) e' ∧ RT rs.w rs.en r s ∧ outOf rs.mi e' = rs.eo r) (fun x => ∃ e', seqM (bd (parM fs (e ++ qs.map some)) (kPr is)) g = .exn x e')
/-- the slots are set from the right -/
def fsets (fr : FD) : List Nat → List SD → FD
  | i :: is, p :: ps => fset (fsets fr is ps) i p
  | _, _ => fr
theorem fset_nm {i j : Nat} {d : SD} (h : nmF fr j = true) (hd : ∀ x, d ≠ .m x) : nmF (fset fr i d) j = true := by
  have key : ∀ (fr : FD) (i j : Nat), fget (fset fr i d) j = if i = j then (fget fr j).map fun _ => d else fget fr j := by
    intro fr
    induction fr with
    | nil => intro i j; simp [fset, fget]
    | cons s fr ih =>
      intro i j
      cases i with
      | zero => cases j with | zero => simp [fset, fget] | succ j => simp [fset, fget]
      | succ i => cases j with | zero => simp [fset, fget] | succ j => simp [fset, fget, ih]
  unfold nmF at h ⊢
  rw [key]
  cases hg : fget fr j with
  | none => rw [hg] at h; cases h
  | some s =>
    rw [hg] at h
    by_cases hij : i = j
    · rw [if_pos hij]
      cases d with
      | m x => exact absurd rfl (hd x)
      | _ => rfl
    · rw [if_neg hij]
      exact h
theorem pop_sets : ∀ {is : List Nat} {ps : List SD} {qs : List Sl} {e : Ev}, is.length = ps.length → PQ ps qs → Fits fr e → nmsF fr is = true → ∃ e', popSets is (e ++ qs.map some) = some e' ∧ Fits (fsets fr is ps) e' := by
  have key : ∀ {is : List Nat} {ps : List SD} {qs : List Sl} {e : Ev}, is.length = ps.length → PQ ps qs → Fits fr e → nmsF fr is = true → ∀ pre : List Sl, ∃ e', popSets is (e ++ (pre ++ qs).map some) = some (e' ++ pre.map some) ∧ Fits (fsets fr is ps) e' ∧ ∀ j, nmF fr j = true → nmF (fsets fr is ps) j = true := by
    intro is
    induction is with
    | nil =>
      intro ps qs e hl h2 hf hn pre
      cases ps with
      | nil => cases h2; exact ⟨e, by rw [List.append_nil]; rfl, hf, fun j h => h⟩
      | cons p ps => cases hl
    | cons i is ih =>
      intro ps qs e hl h2 hf hn pre
      cases ps with
      | nil => cases hl
      | cons p ps =>
        cases h2 with
        | @cons _ q _ qs h3 h4 =>
          have hn' : nmF fr i = true ∧ nmsF fr is = true := by simpa [nmsF] using hn
          obtain ⟨e', a1, a2, a3⟩ := ih (by simpa using hl) h4 hf hn'.2 (pre ++ [q])
          have e1 : pre ++ q :: qs = (pre ++ [q]) ++ qs := by simp
          obtain ⟨y, g1, g2, g3⟩ := nmF_ok (suf := pre.map some) a2 (a3 i hn'.1)
          refine ⟨e'.set i (some q), ?_, fits_set h3.1 a2, fun j hj => fset_nm (a3 j hj) fun x hx => ?_⟩
          · rw [e1]
            unfold popSets
            rw [a1]
            show popSet i (e' ++ (pre ++ [q]).map some) = _
            unfold popSet
            rw [List.map_append, ← List.append_assoc, List.getLast?_append]
            simp only [List.map_cons, List.map_nil, List.getLast?_singleton, Option.some_or, List.dropLast_concat]
            rw [g3, h3.2, if_neg (by simp), ap_set g1]
          · subst hx
            cases (show some q = _ from h3.1)
            cases h3.2
  intro is ps qs e hl h2 hf hn
  obtain ⟨e', a1, a2, _⟩ := key hl h2 hf hn []
  exact ⟨e', by simpa using a1, a2⟩
theorem xp_nil {ps : List SD} {is : List Nat} (hl : is.length = ps.length) (hn : nmsF fr is = true) (h : XS (fsets fr is ps) g t F G rs) : XP fr [] ps is g t F G rs := fun qs h2 e hf => by
  obtain ⟨e', a1, a2⟩ := pop_sets hl h2 hf hn
  have z := h.run e' a2
  have q : seqM (bd (parM [] (e ++ qs.map some)) (kPr is)) g = g e' := by
    rw [v_pm0, bd_ok, v_pa2, a1]
    rfl
  rw [q]
  exact z
theorem xp_p {f : M Sl} {fs : List (M Sl)} {ps : List SD} {is : List Nat} {w : Tk} {a : τ1} {en : τ1 → D} {F1 : τ1 → FD} (h : XE fr f w (.ok a) en F1) (h2 : XP (F1 a) fs (ps ++ [w.sd (en a)]) is g t F G rs) : XP fr (f :: fs) ps is g t F G rs := fun qs h3 e hf => by
  obtain ⟨b, e', z1, z2, z3⟩ := h.run e (qs.map some) hf
  have y := h2 (qs ++ [b]) (by
    have hap : ∀ {ps : List SD} {qs : List Sl}, PQ ps qs → PQ (ps ++ [w.sd (en a)]) (qs ++ [b]) := by
      intro ps qs h
      induction h with
      | nil => exact .cons ⟨z2.fit, z2.nm⟩ .nil
      | cons a b ih => exact .cons a ih
    exact hap h3) e' z3
  have q : parM (f :: fs) (e ++ qs.map some) = parM fs (e' ++ (qs ++ [b]).map some) := by
    rw [v_pm, z1, bd_ok, v_pm2]
    simp
  rw [q]
  exact y
theorem xp_e {f : M Sl} {fs : List (M Sl)} {ps : List SD} {is : List Nat} {w : Tk} {t1 : O τ1} {en : τ1 → D} {F1 : τ1 → FD} {k : τ1 → O (Fw σ κ ρ)} (h : XE fr f w t1 en F1) (h2 : ∀ a, XP (F1 a) fs (ps ++ [w.sd (en a)]) is g (k a) F G rs) : XP fr (f :: fs) ps is g (bnd t1 k) F G rs := fun qs h3 e hf => by
  have z := h.run e (qs.map some) hf
  cases t1 with
  | bad => trivial
  | ex x => obtain ⟨e', z⟩ := z; exact ⟨e', by rw [v_pm, z]; rfl⟩
  | ok a =>
    obtain ⟨b, e', z1, z2, z3⟩ := z
    have y := h2 a (qs ++ [b]) (by
      have hap : ∀ {ps : List SD} {qs : List Sl}, PQ ps qs → PQ (ps ++ [w.sd (en a)]) (qs ++ [b]) := by
        intro ps qs h
        induction h with
        | nil => exact .cons ⟨z2.fit, z2.nm⟩ .nil
        | cons a b ih => exact .cons a ih
      exact hap h3) e' z3
    have q : parM (f :: fs) (e ++ qs.map some) = parM fs (e' ++ (qs ++ [b]).map some) := by
      rw [v_pm, z1, bd_ok, v_pm2]
      simp
    rw [bnd_ok, q]
    exact y
theorem xs_par {is : List Nat} {fs : List (M Sl)} (h : XP fr fs [] is g t F G rs) : XS fr (sSeq (sPar is fs) g) t F G rs := .mk fun e hf => by
  have z := h [] .nil e hf
  simp only [List.map_nil, List.append_nil] at z
  have q : sSeq (sPar is fs) g e = seqM (bd (parM fs e) (kPr is)) g := by rw [sSeq_eq, v_pa]
  rw [q]
  exact z
/-! x[k] = v -/
def kStG (i : Nat) (g : M Fl) : List D → M Fl := fun ds e => seqM (kSt i ds e) g
theorem xs_st {i : Nat} {fv fk : M Sl} (h : XS fr (fun e => bd (opsM [.val fv, .bor i, .val fk] e) (kStG i g)) t F G rs) : XS fr (sSeq (sStore i fv fk) g) t F G rs := xs_eq h fun e => by rw [sSeq_eq, v_st, seq_bd]; rfl
/-! operands ahead of a statement -/
abbrev XSJ (fr : FD) (os : List Opd) (kk : List D → M Fl) (t : O (Fw σ κ ρ)) (F : σ → FD) (G : κ → FD) (rs : RS ρ) : Prop := XS fr (fun e => bd (opsM os e) kk) t F G rs
theorem sj_nil {kk : List D → M Fl} (h : XS fr (kk []) t F G rs) : XSJ fr [] kk t F G rs := h
theorem ops_cons {f : M Sl} {os : List Opd} {kk : List D → M β} : (fun e => bd (opsM (.val f :: os) e) kk) = fun e => bd (f e) fun s e1 => bd (opsM os e1) fun ds e2 => kk (s.d :: ds) e2 := by
  funext e
  show bd (bd (f e) fun s e1 => bd (opsM os e1) fun ds e2 => .ok (s.d :: ds) e2) kk = _
  rw [bd_bd]
  congr 1
  funext s e1
  rw [bd_bd]
  rfl
theorem sj_p {f : M Sl} {os : List Opd} {kk : List D → M Fl} {w : Tk} {a : τ0} {en : τ0 → D} {F0 : τ0 → FD} (h1 : XE fr f w (.ok a) en F0) (h2 : XSJ (F0 a) os (fun ds => kk (en a :: ds)) t F G rs) : XSJ fr (.val f :: os) kk t F G rs := by
  unfold XSJ
  rw [ops_cons]
  exact xs_bdP h1 fun b r => by rw [r.d]; exact h2
theorem sj_e {f : M Sl} {os : List Opd} {kk : List D → M Fl} {w : Tk} {t1 : O τ0} {en : τ0 → D} {F0 : τ0 → FD} {k' : τ0 → O (Fw σ κ ρ)} (h1 : XE fr f w t1 en F0) (h2 : ∀ a, XSJ (F0 a) os (fun ds => kk (en a :: ds)) (k' a) F G rs) : XSJ fr (.val f :: os) kk (bnd t1 k') F G rs := by
  unfold XSJ
  rw [ops_cons]
  exact xs_bd h1 fun a b r => by rw [r.d]; exact h2 a
theorem sj_b {i : Nat} {os : List Opd} {kk : List D → M Fl} {d0 : D} (h0 : dget fr i = some d0) (h : XSJ fr os (kB i kk) t F G rs) : XSJ fr (.bor i :: os) kk t F G rs := .mk fun e hf => by
  obtain ⟨s, h1, _⟩ := dget_ok hf h0
  have z := h.run e hf
  have e1 : bd (opsM (.bor i :: os) e) kk = bd (opsM os e) (kB i kk) := by
    show bd (match e[i]? with | some (some _) => bd (opsM os e) (fun ds e2 => match e2[i]? with | some (some s) => R.ok (s.d :: ds) e2 | _ => .bad) | _ => .bad) kk = _
    rw [h1]
    dsimp only
    rw [bd_bd]
    congr 1
    funext ds e2
    unfold kB
    cases e2[i]? with
    | none => rfl
    | some x => cases x <;> rfl
  rw [e1]
  exact z
theorem s_get {i : Nat} {ds : List D} {kk : List D → M Fl} {d : D} (h0 : dget fr i = some d) (h : XS fr (kk (d :: ds)) t F G rs) : XS fr (kB i kk ds) t F G rs := .mk fun e hf => by
  obtain ⟨s, h1, h2⟩ := dget_ok hf h0
  have z := h.run e hf
  have e1 : kB i kk ds e = kk (d :: ds) e := by
    unfold kB
    rw [h1]
    dsimp only
    rw [h2]
  rw [e1]
  exact z
/-- what a store gives -/
structure GS (d k v : D) (t : O τ) (eo : τ → D) : Prop where
  go : onO t (fun a => gSet d k v = some (eo a)) (fun _ => False)
theorem s_put {i : Nat} {s0 : SD} {d v kd : D} {t1 : O τ1} {eo : τ1 → D} {k : τ1 → O (Fw σ κ ρ)} (h0 : fget fr i = some s0) (hd : s0 = .o d ∨ s0 = .m d) (h : GS d kd v t1 eo) (h2 : ∀ a, XS (fset fr i (s0.put (eo a))) g (k a) F G rs) : XS fr (kStG i g [v, d, kd]) (bnd t1 k) F G rs := .mk fun e hf => by
  obtain ⟨x, g1, g2⟩ := fits_get hf h0
  cases t1 with
  | bad => trivial
  | ex x => exact h.go.elim
  | ok a =>
    have h : gSet d kd v = some (eo a) := h.go
    have q : ∃ x', kStG i g [v, d, kd] e = g (e.set i x') ∧ Fit (s0.put (eo a)) x' := by
      unfold kStG
      rw [v_st1, g1]
      rcases hd with rfl | rfl
      · cases (show x = _ from g2); exact ⟨_, by rw [v_st2, h, v_st4]; rfl, rfl⟩
      · cases (show x = _ from g2); exact ⟨_, by rw [v_st3, h, v_st5]; rfl, rfl⟩
    obtain ⟨x', q1, q2⟩ := q
    have z := (h2 a).run _ (fits_set q2 hf)
    rw [bnd_ok, q1]
    exact z
/-! if -/
theorem xs_ifd {c : M Bool} {a b : M Fl} (h : XS fr (sIf c (sSeq a g) (sSeq b g)) t F G rs) : XS fr (sSeq (sIf c a b) g) t F G rs := xs_eq h fun e => by
  show (match bd (c e) (fun q e' => if q then a e' else b e') with | .ok .nx e' => g e' | r => r) = bd (c e) fun q e' => if q then sSeq a g e' else sSeq b g e'
  cases c e with
  | ok q e' => cases q <;> rfl
  | exn x e' => rfl
  | bad => rfl
theorem xs_if {c : M Bool} {a b : M Fl} {q : Bool} {F1 : Bool → FD} {ta tb : O (Fw σ κ ρ)} (h : XT fr c (.ok q) id F1) (h1 : XS (F1 q) a ta F G rs) (h2 : XS (F1 q) b tb F G rs) : XS fr (sIf c a b) (if q then ta else tb) F G rs := by
  refine xs_bdP h fun q' r => ?_
  cases (show q' = q from r)
  cases q with
  | true => exact h1
  | false => exact h2
theorem xs_ifE {c : M Bool} {a b : M Fl} {t0 : O τ0} {q : τ0 → Bool} {F1 : τ0 → FD} {ta tb : τ0 → O (Fw σ κ ρ)} (h : XT fr c t0 q F1) (h1 : ∀ x, XS (F1 x) a (ta x) F G rs) (h2 : ∀ x, XS (F1 x) b (tb x) F G rs) : XS fr (sIf c a b) (bnd t0 fun x => if q x then ta x else tb x) F G rs := by
  refine xs_bd h fun x q' r => ?_
  cases (show q' = q x from r)
  cases hq : q x with
  | true => exact h1 x
  | false => exact h2 x
/-! one statement, then others -/
theorem xs_seq {f g : M Fl} {t1 : O (Fw σ1 κ ρ)} {F1 : σ1 → FD} {k : σ1 → O (Fw σ κ ρ)} (h1 : XS fr f t1 F1 G rs) (h2 : ∀ s, XS (F1 s) g (k s) F G rs) : XS fr (sSeq f g) (seqF t1 k) F G rs := .mk fun e hf => by
  have z := h1.run e hf
  rw [sSeq_eq]
  cases t1 with
  | bad => trivial
  | ex x => obtain ⟨e', z⟩ := z; exact ⟨e', by rw [z]; rfl⟩
  | ok fl =>
    cases fl with
    | nx s =>
      obtain ⟨e', z1, z2⟩ := z
      have y := (h2 s).run e' z2
      rw [seqF_nx, z1]
      exact y
    | bk s => obtain ⟨e', z1, z2⟩ := z; exact ⟨e', by rw [z1]; rfl, z2⟩
    | ct s => obtain ⟨e', z1, z2⟩ := z; exact ⟨e', by rw [z1]; rfl, z2⟩
    | rt r => obtain ⟨s, e', z1, z2⟩ := z; exact ⟨s, e', by rw [z1]; rfl, z2⟩
/-! return -/
theorem xs_ret {f : M Sl} {g : M Fl} {w : Tk} {t1 : O τ1} {en : τ1 → D} {F1 : τ1 → FD} {r : τ1 → ρ} (h : XE fr f w t1 en F1) (hr : ∀ a, rs.en (r a) = en a) (hw : w = rs.w ∨ rs.w = .a) (ho : ∀ a, OutOk (F1 a) rs (r a)) : XS fr (sSeq (sRet f) g) (bnd t1 fun a => .ok (.rt (r a))) F G rs :=
  xs_eq (xs_bd (k := fun s e => .ok (.rt s) e) h fun a b q => .mk fun e hf => ⟨b, e, rfl, (by
    rcases hw with hw | hw
    · subst hw; unfold RT at q ⊢; rw [hr]; exact q
    · unfold RT at q ⊢
      rw [hw, hr]
      cases w with
      | s => exact .inl q
      | o => exact .inr q
      | a => exact q), out_ok hf (ho a)⟩) fun e => by
        show (match bd (f e) kRt with | .ok .nx e' => g e' | r => r) = bd (f e) kRt
        cases f e <;> rfl
theorem xs_retP {f : M Sl} {g : M Fl} {w : Tk} {a : τ1} {en : τ1 → D} {F1 : τ1 → FD} {r : ρ} (h : XE fr f w (.ok a) en F1) (hr : rs.en r = en a) (hw : w = rs.w ∨ rs.w = .a) (ho : OutOk (F1 a) rs r) : XS fr (sSeq (sRet f) g) (.ok (.rt r)) F G rs :=
  xs_eq (xs_bdP (k := fun s e => .ok (.rt s) e) h fun b q => .mk fun e hf => ⟨b, e, rfl, (by
    rcases hw with hw | hw
    · subst hw; unfold RT at q ⊢; rw [hr]; exact q
    · unfold RT at q ⊢
      rw [hw, hr]
      cases w with
      | s => exact .inl q
      | o => exact .inr q
      | a => exact q), out_ok hf ho⟩) fun e => by
        show (match bd (f e) kRt with | .ok .nx e' => g e' | r => r) = bd (f e) kRt
        cases f e <;> rfl
/-- return x, x a name -/
theorem xs_retV {i : Nat} {g : M Fl} {s0 : SD} {d : D} {r : ρ} (h : fget fr i = some s0) (hd : (s0 = .s d ∧ (rs.w = .s ∨ rs.w = .a)) ∨ (s0 = .o d ∧ (rs.w = .o ∨ rs.w = .a)) ∨ (s0 = .v d ∧ rs.w = .a)) (hr : rs.en r = d) (ho : OutOk fr rs r) : XS fr (sSeq (sRetV i) g) (.ok (.rt r)) F G rs := .mk fun e hf => by
  obtain ⟨x, h1, h2⟩ := fits_get hf h
  have o := out_ok hf ho
  have oo : ∀ d', e[i]? = some (some (.ow d')) → outOf rs.mi (e.set i none) = rs.eo r := fun d' hx => by
    rw [← o]
    cases hm : rs.mi with
    | none => rfl
    | some j =>
      unfold OutOk at ho
      rw [hm] at ho
      obtain ⟨y, y1, y2⟩ := fits_get hf ho
      cases (show y = _ from y2)
      have : i ≠ j := fun q => by subst q; rw [hx] at y1; cases y1
      show (match (e.set i none)[j]? with | some (some s) => s.d | _ => .non) = (match e[j]? with | some (some s) => s.d | _ => .non)
      rw [List.getElem?_set_ne this]
  have sh : ∀ d', x = some (.sh d') → sSeq (sRetV i) g e = .ok (.rt (.sh d')) e := fun d' q => by
    subst q
    rw [sSeq_eq, v_rv, h1, v_rv1]; rfl
  have ow : ∀ d', x = some (.ow d') → sSeq (sRetV i) g e = .ok (.rt (.ow d')) (e.set i none) := fun d' q => by
    subst q
    rw [sSeq_eq, v_rv, h1, v_rv2]; rfl
  rcases hd with ⟨rfl, hw⟩ | ⟨rfl, hw⟩ | ⟨rfl, hw⟩
  · refine ⟨_, _, sh _ h2, ?_, o⟩
    unfold RT
    rcases hw with hw | hw <;> rw [hw, hr]
    exact .inl rfl
  · refine ⟨_, _, ow _ h2, ?_, oo _ (by rw [h1, show x = _ from h2])⟩
    unfold RT
    rcases hw with hw | hw <;> rw [hw, hr]
    exact .inr rfl
  · rcases h2 with h2 | h2
    · refine ⟨_, _, sh _ h2, ?_, o⟩
      unfold RT
      rw [hw, hr]
      exact .inl rfl
    · refine ⟨_, _, ow _ h2, ?_, oo _ (by rw [h1, show x = _ from h2])⟩
      unfold RT
      rw [hw, hr]
      exact .inr rfl
/-! for -/
theorem for_run2 {tg : Tg} {b : M Fl} {body : α → σ → O (Fw σ σ ρ)} {enα : α → D} {Fl : σ → FD} {Fb : α → σ → FD} {F' : σ → FD} (ht : ∀ x s, TGs (Fl s) tg (enα x) (Fb x s)) (hb : ∀ x s, XS (Fb x s) b (body x s) Fl Fl rs) (hF : ∀ s, FLe (Fl s) (F' s)) :
    ∀ (xs : List α) (s : σ), XS (Fl s) (forM tg b (xs.map enα)) (forF (κ := κ) body xs s) F' G rs
  | [], s => .mk fun e hf => ⟨e, rfl, hF s e hf⟩
  | x :: xs, s => .mk fun e hf => by
    obtain ⟨e1, a1, a2⟩ := ht x s e [] hf
    rw [List.append_nil, List.append_nil] at a1
    have q : forM tg b ((x :: xs).map enα) e = loopM (b e1) (forM tg b (xs.map enα)) := by rw [List.map_cons, forM_cons a1]
    have z := (hb x s).run e1 a2
    unfold forF
    rw [q]
    cases hbd : body x s with
    | bad => trivial
    | ex x => rw [hbd] at z; obtain ⟨e2, z⟩ := z; exact ⟨e2, by rw [z]; rfl⟩
    | ok fl =>
      rw [hbd] at z
      cases fl with
      | nx s' => obtain ⟨e2, z1, z2⟩ := z; rw [z1]; exact (for_run2 ht hb hF xs s').run e2 z2
      | ct s' => obtain ⟨e2, z1, z2⟩ := z; rw [z1]; exact (for_run2 ht hb hF xs s').run e2 z2
      | bk s' => obtain ⟨e2, z1, z2⟩ := z; exact ⟨e2, by rw [z1]; rfl, hF s' e2 z2⟩
      | rt r => obtain ⟨s', e2, z1, z2, z3⟩ := z; exact ⟨s', e2, by rw [z1]; rfl, z2, z3⟩
theorem xs_for {src : M (List D)} {tg : Tg} {b : M Fl} {t1 : O τ1} {xs : τ1 → List α} {s0 : τ1 → σ} {enα : α → D} {body : α → σ → O (Fw σ σ ρ)} {F1 : τ1 → FD} {Fl : σ → FD} {Fb : α → σ → FD} (hs : XI fr src t1 (fun a => (xs a).map enα) F1) (h0 : ∀ a, FLe (F1 a) (Fl (s0 a))) (ht : ∀ x s, TGs (Fl s) tg (enα x) (Fb x s)) (hb : ∀ x s, XS (Fb x s) b (body x s) Fl Fl rs) :
    XS fr (sFor src tg b) (bnd t1 fun a => forF (κ := κ) body (xs a) (s0 a)) Fl G rs := xs_bd hs fun a q r => by
  cases (show q = _ from r)
  exact xs_le (h0 a) (for_run2 ht hb (fun _ => fle_r) (xs a) (s0 a))
theorem xs_forP {src : M (List D)} {tg : Tg} {b : M Fl} {xs : List α} {s0 : σ} {enα : α → D} {body : α → σ → O (Fw σ σ ρ)} {F1 : List α → FD} {Fl : σ → FD} {Fb : α → σ → FD} (hs : XI fr src (.ok xs) (fun a => a.map enα) F1) (h0 : FLe (F1 xs) (Fl s0)) (ht : ∀ x s, TGs (Fl s) tg (enα x) (Fb x s)) (hb : ∀ x s, XS (Fb x s) b (body x s) Fl Fl rs) :
    XS fr (sFor src tg b) (forF (κ := κ) body xs s0) Fl G rs := xs_bdP hs fun q r => by
  cases (show q = _ from r)
  exact xs_le h0 (for_run2 ht hb (fun _ => fle_r) xs s0)
/-! while -/
theorem wh_run {c : M Bool} {b : M Fl} {tc : σ → O Bool} {body : σ → O (Fw σ σ ρ)} {Fl Fc : σ → FD} (hc : ∀ s, XT (Fl s) c (tc s) id (fun _ => Fc s)) (hb : ∀ s, XS (Fc s) b (body s) Fl Fl rs) (hF : ∀ s, FLe (Fc s) (Fl s)) : ∀ (n : Nat) (s : σ), XS (Fl s) (whileM c b n) (whF (κ := κ) tc body n s) Fl G rs
  | 0, s => .mk fun e hf => trivial
  | n + 1, s => .mk fun e hf => by
    have z := X0 (hc s) e hf
    unfold whF
    rw [whileM_succ]
    cases hcd : tc s with
    | bad => trivial
    | ex x => rw [hcd] at z; obtain ⟨e1, z⟩ := z; exact ⟨e1, by rw [z]; rfl⟩
    | ok q =>
      rw [hcd] at z
      obtain ⟨q', e1, z1, z2, z3⟩ := z
      cases (show q' = q from z2)
      rw [z1, bd_ok, bnd_ok]
      cases q with
      | false => exact ⟨e1, rfl, hF s e1 z3⟩
      | true =>
        rw [if_pos rfl, if_pos rfl]
        have y := (hb s).run e1 z3
        cases hbd : body s with
        | bad => trivial
        | ex x => rw [hbd] at y; obtain ⟨e2, y⟩ := y; exact ⟨e2, by rw [y]; rfl⟩
        | ok fl =>
          rw [hbd] at y
          cases fl with
          | nx s' => obtain ⟨e2, y1, y2⟩ := y; rw [y1]; exact (wh_run hc hb hF n s').run e2 y2
          | ct s' => obtain ⟨e2, y1, y2⟩ := y; rw [y1]; exact (wh_run hc hb hF n s').run e2 y2
          | bk s' => obtain ⟨e2, y1, y2⟩ := y; exact ⟨e2, by rw [y1]; rfl, y2⟩
          | rt r => obtain ⟨s', e2, y1, y2, y3⟩ := y; exact ⟨s', e2, by rw [y1]; rfl, y2, y3⟩
theorem xs_wh {c : M Bool} {b : M Fl} {n : Nat} {s0 : σ} {tc : σ → O Bool} {body : σ → O (Fw σ σ ρ)} {Fl Fc : σ → FD} (h0 : FLe fr (Fl s0)) (hc : ∀ s, XT (Fl s) c (tc s) id (fun _ => Fc s)) (hb : ∀ s, XS (Fc s) b (body s) Fl Fl rs) (hF : ∀ s, FLe (Fc s) (Fl s)) : XS fr (whileM c b n) (whF (κ := κ) tc body n s0) Fl G rs := xs_le h0 (wh_run hc hb hF n s0)
/-! a def -/
theorem x_def {mi : Option Nat} {n : Nat} {b : M Fl} {ds : List D} {t : O (Fw σ κ ρ)} (hs : Fits fr (start0 mi n ds)) (h : XS fr b t F G rs) (hm : rs.mi = mi) (hx : mi = none ∨ ∀ x, t ≠ .ex x) : RFk rs (bodyM mi n b ds) (finR t) := by
  have z := h.run _ hs
  refine ⟨?_⟩
  rw [bodyM_eq]
  cases t with
  | bad => trivial
  | ex x =>
    obtain ⟨e', z⟩ := z
    rcases hx with rfl | hx
    · exact ⟨hm, by rw [z]; rfl⟩
    · exact absurd rfl (hx x)
  | ok fl =>
    cases fl with
    | rt r =>
      obtain ⟨s, e', z1, z2, z3⟩ := z
      refine ⟨s, ?_, z2⟩
      rw [z1, finM_rt, ← hm, z3]
    | _ => trivial
theorem x_defN {mi : Option Nat} {n : Nat} {b : M Fl} {ds : List D} {t : O (Fw σ κ ρ)} {k : σ → ρ} (hs : Fits fr (start0 mi n ds)) (h : XS fr b t F G rs) (hm : rs.mi = mi) (hx : mi = none ∨ ∀ x, t ≠ .ex x) (hk : ∀ s, OutOk (F s) rs (k s)) (hn : ∀ s, rs.en (k s) = .non) (hw : rs.w ≠ .o) : RFk rs (bodyM mi n b ds) (finN t k) := by
  have z := h.run _ hs
  refine ⟨?_⟩
  rw [bodyM_eq]
  cases t with
  | bad => trivial
  | ex x =>
    obtain ⟨e', z⟩ := z
    rcases hx with rfl | hx
    · exact ⟨hm, by rw [z]; rfl⟩
    · exact absurd rfl (hx x)
  | ok fl =>
    cases fl with
    | rt r =>
      obtain ⟨s, e', z1, z2, z3⟩ := z
      refine ⟨s, ?_, z2⟩
      rw [z1, finM_rt, ← hm, z3]
    | nx s =>
      obtain ⟨e', z1, z2⟩ := z
      have o := out_ok z2 (hk s)
      refine ⟨.sh .non, ?_, ?_⟩
      · rw [z1, finM_nx, ← hm, o]
      · unfold RT
        cases h : rs.w with
        | s => rw [hn]
        | o => exact absurd h hw
        | a => rw [hn]; exact .inl rfl
    | _ => trivial
end
end DL

end
section
set_option maxRecDepth 100000
set_option maxHeartbeats 2000000
/-! DX4: operations on typed things. -/
namespace DL
open PySem PySem.Spec PyProof.Rows L2

/-! ### how things are data -/
section
variable {α β γ δ ε ζ τ : Type}
def eU : Unit → D := fun _ => .non
def eL (e : α → D) : List α → D := fun xs => .lst (xs.map e)
def eT (e : α → D) : List α → D := fun xs => .tup (xs.map e)
def eR (e : α → D) : List α → D := fun xs => .rol (xs.map e)
def eO (e : α → D) : Option α → D
  | none => .non
  | some a => e a
def eP0 : Unit → D := fun _ => .tup []
def eP1 (e1 : α → D) : α → D := fun p => .tup [e1 p]
def eP2 (e1 : α → D) (e2 : β → D) : α × β → D := fun p => .tup [e1 p.1, e2 p.2]
def eP3 (e1 : α → D) (e2 : β → D) (e3 : γ → D) : α × β × γ → D := fun p => .tup [e1 p.1, e2 p.2.1, e3 p.2.2]
def eP4 (e1 : α → D) (e2 : β → D) (e3 : γ → D) (e4 : δ → D) : α × β × γ × δ → D := fun p => .tup [e1 p.1, e2 p.2.1, e3 p.2.2.1, e4 p.2.2.2]
def eP5 (e1 : α → D) (e2 : β → D) (e3 : γ → D) (e4 : δ → D) (e5 : ε → D) : α × β × γ × δ × ε → D := fun p => .tup [e1 p.1, e2 p.2.1, e3 p.2.2.1, e4 p.2.2.2.1, e5 p.2.2.2.2]
def eD : D → D := fun d => d
/-! ### what the typed operations are -/
def ixO (xs : List α) (i : Int) : O α := match atI xs i with
  | some a => .ok a
  | none => .bad
def mulO (a b : Int) : O Int := if DL.small64 a || DL.small64 b || decide (a.natAbs.log2 + b.natAbs.log2 < 1000000) then .ok (a * b) else .bad
def divO (a b : Int) : O Int := if 0 < b ∧ b < 1073741824 then .ok (a / b) else .bad
def modO (a b : Int) : O Int := if 0 < b then .ok (a % b) else .bad
def divmodO (a b : Int) : O (Int × Int) := if 0 < b ∧ b < 1073741824 then .ok (a / b, a % b) else .bad
def iabs (a : Int) : Int := if a < 0 then -a else a
def maxO : List Int → O Int
  | [] => .bad
  | n :: ns => .ok (maxI n ns)
def minO : List Int → O Int
  | [] => .bad
  | n :: ns => .ok (minI n ns)
def catO (xs ys : List α) : O (List α) := if xs.length + ys.length ≤ sizeLine then .ok (xs ++ ys) else .bad
def repO (xs : List α) (k : Int) : O (List α) := if 0 ≤ k ∧ k < 1073741824 ∧ xs.length * k.toNat ≤ sizeLine then .ok (List.replicate k.toNat xs).flatten else .bad
def repTO (xs : List α) (k : Int) : O (List α) := if xs.length ≠ 0 ∧ 2 ≤ k ∧ k ≤ 1000 ∧ xs.length ≤ 1000 then .ok (List.replicate k.toNat xs).flatten else .bad
def cutL (xs : List α) (lo hi : Option Int) : List α := (xs.drop (HT.sIx xs.length 0 lo)).take (HT.sIx xs.length xs.length hi - HT.sIx xs.length 0 lo)
def stepTO (xs : List α) (lo : Option Int) (k : Int) : O (List α) := if k ≠ 0 ∧ k ≠ 1 ∧ (pickT xs lo none k).length ≤ sizeLine then .ok (pickT xs lo none k) else .bad
def stepLO (xs : List α) (lo : Option Int) (k : Int) : O (List α) := if k ≠ 0 then .ok (pickL xs lo none k) else .bad
def appO (xs : List α) (x : α) : O (List α) := if xs.length < sizeLine then .ok (xs ++ [x]) else .bad
def extO (xs ys : List α) : O (List α) := if xs.length + ys.length ≤ sizeLine then .ok (xs ++ ys) else .bad
def popO (xs : List α) : O (List α × α) := match xs[xs.length - 1]? with
  | some d => .ok (xs.dropLast, d)
  | none => .bad
def popIO (xs : List α) (i : Int) : O (List α × α) := if -9223372036854775808 ≤ i ∧ i < 9223372036854775808 then (match seqIndex? i xs.length with
  | some k => (match xs[k]? with
    | some d => .ok (xs.eraseIdx k, d)
    | none => .bad)
  | none => .bad) else .bad
def setO (xs : List α) (k : Int) (v : α) : O (List α) := match ixN xs.length k with
  | some j => .ok (xs.set j v)
  | none => .bad
def irng (a b : Int) : List Int := (List.range (b - a).toNat).map fun i => a + (i : Nat)
def irngD (a b : Int) : List Int := (List.range (a - b).toNat).map fun i => a - (i : Nat)
def rngB (i : Int) : Bool := decide (-4611686018427387904 ≤ i ∧ i < 4611686018427387904)
theorem rngB_eq (i : Int) : rngB i = rngOk i := by
  unfold rngB rngOk
  have h : (2 : Int) ^ 62 = 4611686018427387904 := by decide
  rw [h]
def rgB (a b : Int) : Bool := rngB a && rngB b && decide ((b - a).toNat ≤ 16777216)
theorem rgB_eq (a b : Int) : rgB a b = rgOkB a b := by
  unfold rgB rgOkB
  rw [rngB_eq, rngB_eq]
def rng1 (j : Int) : O (List Int) := if rngB j then .ok (irng 0 j) else .bad
def rng2 (i j : Int) : O (List Int) := if rngB i && rngB j then .ok (irng i j) else .bad
def rngDn (i j : Int) : O (List Int) := if rngB i && rngB j then .ok (irngD i j) else .bad
def rngL1 (j : Int) : O (List Int) := if rgB 0 j then .ok (irng 0 j) else .bad
def rngL2 (i j : Int) : O (List Int) := if rgB i j then .ok (irng i j) else .bad
def eqO (a b : D) : O Bool := if shp a && shp b then .ok (PyData.eqv a.py b.py) else .bad
def neO (a b : D) : O Bool := if shp a && shp b then .ok (!PyData.eqv a.py b.py) else .bad
def inO (a : D) (ds : List D) : O Bool := if shp a && shp (.tup ds) then .ok (inD a ds) else .bad
def reprO (d : D) : O Str := if d.py.canLay0 && d.py.showable && decide (d.py.depth ≤ 64) && decide (d.py.shown.length ≤ sizeLine) then .ok d.py.shown else .bad
def sortSetO (xs : List Int) : O (List Int) := if xs.length ≤ 4000 ∧ (srtU xs).length < 64 then .ok (srtU xs) else .bad
def lenSetO (xs : List Int) : O Int := if xs.length ≤ 4000 then .ok ((srtU xs).length : Int) else .bad
def isiO (T : String) (d : D) : O Bool := if notDt d then .ok (isTy (tyD d) T) else .bad
def isisO (Ts : List String) (d : D) : O Bool := if notDt d then .ok (Ts.any fun T => isTy (tyD d) T) else .bad
def enumI (xs : List α) : List (Int × α) := xs.mapIdx fun i x => (((i : Nat) : Int), x)
/-! of data -/
def sO (r : Option Sl) : O D := match r with
  | some (.sh d) => .ok d
  | _ => .bad
def owO (r : Option Sl) : O D := match r with
  | some (.ow d) => .ok d
  | _ => .bad
def intO (r : Option Sl) : O Int := match r with
  | some (.sh (.int i)) => .ok i
  | _ => .bad
def blO (r : Option Sl) : O Bool := match r with
  | some (.sh (.bl i)) => .ok i
  | _ => .bad
def strO (r : Option Sl) : O Str := match r with
  | some (.sh (.str i)) => .ok i
  | _ => .bad
def seqO (d : D) : O (List D) := match seqD d with
  | some l => .ok l
  | none => .bad
/-! ### the operations -/
theorem go_sO {g : List D → Option Sl} {ds : List D} : GO g ds .s (sO (g ds)) eD := by
  unfold sO
  split
  · rename_i d h; exact ⟨⟨_, h, rfl⟩⟩
  · exact ⟨trivial⟩
theorem go_owO {g : List D → Option Sl} {ds : List D} : GO g ds .o (owO (g ds)) eD := by
  unfold owO
  split
  · rename_i d h; exact ⟨⟨_, h, rfl⟩⟩
  · exact ⟨trivial⟩
theorem go_intO {g : List D → Option Sl} {ds : List D} : GO g ds .s (intO (g ds)) D.int := by
  unfold intO
  split
  · rename_i d h; exact ⟨⟨_, h, rfl⟩⟩
  · exact ⟨trivial⟩
theorem go_blO {g : List D → Option Sl} {ds : List D} : GO g ds .s (blO (g ds)) D.bl := by
  unfold blO
  split
  · rename_i d h; exact ⟨⟨_, h, rfl⟩⟩
  · exact ⟨trivial⟩
theorem go_strO {g : List D → Option Sl} {ds : List D} : GO g ds .s (strO (g ds)) D.str := by
  unfold strO
  split
  · rename_i d h; exact ⟨⟨_, h, rfl⟩⟩
  · exact ⟨trivial⟩
theorem go_add {a b : Int} : GO (gg2 DL.gAdd) [.int a, .int b] .s (.ok (a + b)) D.int := go_s rfl
theorem go_sub {a b : Int} : GO (gg2 DL.gSub) [.int a, .int b] .s (.ok (a - b)) D.int := go_s rfl
theorem go_neg {a : Int} : GO (gg1 DL.gNeg) [.int a] .s (.ok (-a)) D.int := go_s rfl
theorem go_abs {a : Int} : GO (gg1 gAbs) [.int a] .s (.ok (iabs a)) D.int := go_s rfl
theorem go_mul {a b : Int} : GO (gg2 DL.gMul) [.int a, .int b] .s (mulO a b) D.int := by
  unfold mulO
  refine go_if fun c => go_s ?_
  show (if _ then si (a * b) else none) = _
  rw [if_pos c]; rfl
theorem go_mull {a b : Int} (h : DL.small64 a = true) : GO (gg2 DL.gMul) [.int a, .int b] .s (.ok (a * b)) D.int := go_s (by
  show (if _ then si (a * b) else none) = _
  rw [h]; rfl)
theorem go_mulr {a b : Int} (h : DL.small64 b = true) : GO (gg2 DL.gMul) [.int a, .int b] .s (.ok (a * b)) D.int := go_s (by
  show (if DL.small64 a || DL.small64 b || _ then si (a * b) else none) = _
  rw [h, Bool.or_true, Bool.true_or]; rfl)
theorem go_div {a b : Int} : GO (gg2 DL.gDiv) [.int a, .int b] .s (divO a b) D.int := by
  unfold divO
  refine go_if fun c => go_s ?_
  exact w_div c.1 c.2
theorem go_divk {a b : Int} (h : decide (0 < b ∧ b < 1073741824) = true) : GO (gg2 DL.gDiv) [.int a, .int b] .s (.ok (a / b)) D.int := go_s (w_div (of_decide_eq_true h).1 (of_decide_eq_true h).2)
theorem go_mod {a b : Int} : GO (gg2 DL.gMod) [.int a, .int b] .s (modO a b) D.int := by
  unfold modO
  refine go_if fun c => go_s ?_
  exact w_mod c
theorem go_modk {a b : Int} (h : decide (0 < b) = true) : GO (gg2 DL.gMod) [.int a, .int b] .s (.ok (a % b)) D.int := go_s (w_mod (of_decide_eq_true h))
theorem go_divmod {a b : Int} : GO (gg2 DL.gDivmod) [.int a, .int b] .s (divmodO a b) (eP2 D.int D.int) := by
  unfold divmodO
  refine go_if fun c => go_s ?_
  exact w_dm c.1 c.2
theorem go_lt {a b : Int} : GO (gg2 gLt) [.int a, .int b] .s (.ok (decide (a < b))) D.bl := go_s rfl
theorem go_le {a b : Int} : GO (gg2 gLe) [.int a, .int b] .s (.ok (decide (a ≤ b))) D.bl := go_s rfl
theorem go_gt {a b : Int} : GO (gg2 gGt) [.int a, .int b] .s (.ok (decide (b < a))) D.bl := go_s rfl
theorem go_ge {a b : Int} : GO (gg2 gGe) [.int a, .int b] .s (.ok (decide (b ≤ a))) D.bl := go_s rfl
theorem go_eqi {a b : Int} : GO (gg2 gEq) [.int a, .int b] .s (.ok (a == b)) D.bl := go_s rfl
theorem go_nei {a b : Int} : GO (gg2 gNe) [.int a, .int b] .s (.ok (!(a == b))) D.bl := go_s rfl
theorem eqv_str {a b : Str} : PyData.eqv (.str a) (.str b) = (a == b) := by simp only [PyData.eqv]
theorem shp_str (a : Str) : shp (.str a) = PyData.strOk a := by
  unfold shp SeqAt.shaped
  simp [D.py, PyData.canLay0, PyData.depth]
def eqsO (a b : Str) : O Bool := if PyData.strOk a && PyData.strOk b then .ok (a == b) else .bad
def nesO (a b : Str) : O Bool := if PyData.strOk a && PyData.strOk b then .ok (!(a == b)) else .bad
theorem go_eqs {a b : Str} : GO (gg2 gEq) [.str a, .str b] .s (eqsO a b) D.bl := by
  unfold eqsO
  refine go_if fun c => go_s ?_
  show (if shp (.str a) && shp (.str b) then sb (PyData.eqv (.str a) (.str b)) else none) = _
  rw [shp_str, shp_str, c, eqv_str]; rfl
theorem go_nes {a b : Str} : GO (gg2 gNe) [.str a, .str b] .s (nesO a b) D.bl := by
  unfold nesO
  refine go_if fun c => go_s ?_
  show (if shp (.str a) && shp (.str b) then sb (!PyData.eqv (.str a) (.str b)) else none) = _
  rw [shp_str, shp_str, c, eqv_str]; rfl
theorem go_eqb {a b : Bool} : GO (gg2 gEq) [.bl a, .bl b] .s (.ok (a == b)) D.bl := go_s (by cases a <;> cases b <;> rfl)
theorem go_neb {a b : Bool} : GO (gg2 gNe) [.bl a, .bl b] .s (.ok (!(a == b))) D.bl := go_s (by cases a <;> cases b <;> rfl)
theorem go_eq {a b : D} : GO (gg2 gEq) [a, b] .s (eqO a b) D.bl := by
  unfold eqO
  refine go_if fun c => go_s ?_
  show (if _ then sb _ else none) = _
  rw [if_pos c]; rfl
theorem go_ne {a b : D} : GO (gg2 gNe) [a, b] .s (neO a b) D.bl := by
  unfold neO
  refine go_if fun c => go_s ?_
  show (if _ then sb _ else none) = _
  rw [if_pos c]; rfl
theorem shpT {ds : List D} : shp (.lst ds) = shp (.tup ds) := by
  unfold shp SeqAt.shaped
  have e1 : (D.lst ds).py = .list (pys ds) := rfl
  have e2 : (D.tup ds).py = .tuple (pys ds) := rfl
  rw [e1, e2]
  simp only [PyData.canLay0, PyData.depth]
  rfl
theorem go_inT {a : D} {ds : List D} (h : ∀ x, a ≠ .str x) : GO (gg2 gIn) [a, .tup ds] .s (inO a ds) D.bl := by
  unfold inO
  refine go_if fun c => go_s ?_
  show gIn0 a (.tup ds) = _
  unfold gIn0
  split
  · rename_i h1 h2; cases h2
  · show (if _ then sb _ else none) = _
    rw [if_pos c]; rfl
theorem go_inTs {a : Str} {ds : List D} : GO (gg2 gIn) [.str a, .tup ds] .s (inO (.str a) ds) D.bl := by
  unfold inO
  refine go_if fun c => go_s ?_
  show (if _ then sb _ else none) = _
  rw [if_pos c]; rfl
theorem go_inL {a : D} {ds : List D} : GO (gg2 gIn) [a, .lst ds] .s (inO a ds) D.bl := by
  unfold inO
  refine go_if fun c => go_s ?_
  show gIn0 a (.lst ds) = _
  unfold gIn0
  split
  · rename_i h1 h2; cases h2
  · show (if _ then sb _ else none) = _
    rw [shpT, if_pos c]; rfl
theorem go_ninT {a : D} {ds : List D} : GO (gg2 gNin) [a, .tup ds] .s (bnd (inO a ds) fun b => .ok (!b)) D.bl := by
  unfold inO
  by_cases c : (shp a && shp (.tup ds)) = true
  · rw [if_pos c]
    refine go_s ?_
    show gNin0 a (.tup ds) = _
    unfold gNin0
    split
    · rename_i h1 h2; cases h2
    · show (if _ then sb _ else none) = _
      rw [if_pos c]; rfl
  · rw [if_neg c]; exact ⟨trivial⟩
theorem go_ninL {a : D} {ds : List D} : GO (gg2 gNin) [a, .lst ds] .s (bnd (inO a ds) fun b => .ok (!b)) D.bl := by
  unfold inO
  by_cases c : (shp a && shp (.tup ds)) = true
  · rw [if_pos c]
    refine go_s ?_
    show gNin0 a (.lst ds) = _
    unfold gNin0
    split
    · rename_i h1 h2; cases h2
    · show (if _ then sb _ else none) = _
      rw [shpT, if_pos c]; rfl
  · rw [if_neg c]; exact ⟨trivial⟩
theorem shp_intsT (c : List Int) : shp (.tup (c.map D.int)) = true := by
  unfold shp SeqAt.shaped
  have e : (D.tup (c.map D.int)).py = .tuple (c.map PyData.int) := by
    show PyData.tuple (pys (c.map D.int)) = _
    rw [pys_map, List.map_map]; rfl
  rw [e]
  have k : ∀ c : List Int, PyData.canLayAll0 (c.map PyData.int) = true := fun c => by
    induction c with
    | nil => rfl
    | cons a c ih => rw [List.map_cons, PyData.canLayAll0, ih]; rfl
  have d : ∀ c : List Int, PyData.depthAll (c.map PyData.int) = 0 := fun c => by
    induction c with
    | nil => rfl
    | cons a c ih => rw [List.map_cons, PyData.depthAll, ih]; rfl
  rw [PyData.canLay0, k c, PyData.depth, d c]
  rfl
theorem inD_ints (i : Int) (c : List Int) : inD (.int i) (c.map D.int) = c.contains i := by
  unfold inD
  rw [List.any_map]
  induction c with
  | nil => rfl
  | cons a c ih =>
    rw [List.any_cons, ih, List.contains_cons]
    show ((a == i) || _) = _
    rw [show (a == i) = (i == a) from by rw [Bool.beq_comm]]
theorem inO_ints (i : Int) (c : List Int) : inO (.int i) (c.map D.int) = .ok (c.contains i) := by
  unfold inO
  rw [shp_intsT, inD_ints]
  rfl
theorem go_inTi {a : Int} {xs : List Int} : GO (gg2 gIn) [.int a, eT D.int xs] .s (.ok (xs.contains a)) D.bl := by
  rw [← inO_ints]; exact go_inT (fun x => by simp)
theorem go_inLi {a : Int} {xs : List Int} : GO (gg2 gIn) [.int a, eL D.int xs] .s (.ok (xs.contains a)) D.bl := by
  rw [← inO_ints]; exact go_inL
theorem go_ninTi {a : Int} {xs : List Int} : GO (gg2 gNin) [.int a, eT D.int xs] .s (.ok (!xs.contains a)) D.bl := by
  have := go_ninT (a := .int a) (ds := xs.map D.int)
  rw [inO_ints] at this
  exact this
theorem go_ninLi {a : Int} {xs : List Int} : GO (gg2 gNin) [.int a, eL D.int xs] .s (.ok (!xs.contains a)) D.bl := by
  have := go_ninL (a := .int a) (ds := xs.map D.int)
  rw [inO_ints] at this
  exact this
/-! items -/
theorem atI_map {e : α → D} {xs : List α} {i : Int} : dAt (xs.map e) i = match atI xs i with
    | some a => some (.sh (e a))
    | none => none := by
  unfold dAt atI
  rw [List.length_map]
  cases ixN xs.length i with
  | none => rfl
  | some j =>
    show (match (xs.map e)[j]? with | some d => some (Sl.sh d) | none => none) = (match xs[j]? with | some a => some (Sl.sh (e a)) | none => none)
    rw [List.getElem?_map]
    cases xs[j]? <;> rfl
theorem go_ixL {e : α → D} {xs : List α} {i : Int} : GO (gg2 DL.gIx) [eL e xs, .int i] .s (ixO xs i) e := by
  unfold ixO
  have k : gg2 DL.gIx [eL e xs, .int i] = dAt (xs.map e) i := rfl
  rw [atI_map] at k
  cases h : atI xs i with
  | none => exact ⟨trivial⟩
  | some a => rw [h] at k; exact ⟨⟨_, k, rfl⟩⟩
theorem go_ixT {e : α → D} {xs : List α} {i : Int} : GO (gg2 DL.gIx) [eT e xs, .int i] .s (ixO xs i) e := ⟨(go_ixL (e := e) (xs := xs) (i := i)).go⟩
theorem go_ixR {e : α → D} {xs : List α} {i : Int} : GO (gg2 DL.gIx) [eR e xs, .int i] .s (ixO xs i) e := ⟨(go_ixL (e := e) (xs := xs) (i := i)).go⟩
/-- an item of a tuple whose items are told -/
theorem go_ixP {ds : List D} {i : Int} {a : τ} {en : τ → D} (h : dAt ds i = some (.sh (en a))) : GO (gg2 DL.gIx) [.tup ds, .int i] .s (.ok a) en := go_s h
theorem go_lenL {e : α → D} {xs : List α} : GO (gg1 gLen) [eL e xs] .s (.ok (xs.length : Int)) D.int := go_s (by show some (Sl.sh (.int ((xs.map e).length : Int))) = _; rw [List.length_map])
theorem go_lenT {e : α → D} {xs : List α} : GO (gg1 gLen) [eT e xs] .s (.ok (xs.length : Int)) D.int := ⟨(go_lenL (e := e) (xs := xs)).go⟩
theorem go_lenR {e : α → D} {xs : List α} : GO (gg1 gLen) [eR e xs] .s (.ok (xs.length : Int)) D.int := ⟨(go_lenL (e := e) (xs := xs)).go⟩
theorem go_max {a b : Int} : GO gMax [.int a, .int b] .s (.ok (max a b)) D.int := go_s (by
  show some (Sl.sh (.int (if b > a then b else a))) = _
  rw [show (if b > a then b else a) = max a b by split <;> omega])
theorem go_min {a b : Int} : GO gMin [.int a, .int b] .s (.ok (min a b)) D.int := go_s (by
  show some (Sl.sh (.int (if b < a then b else a))) = _
  rw [show (if b < a then b else a) = min a b by split <;> omega])
theorem intsD_mp : ∀ ns : List Int, intsD (ns.map D.int) = some ns
  | [] => rfl
  | n :: ns => by
    have k := intsD_mp ns
    rw [List.map_cons]
    unfold intsD
    rw [k]
    rfl
theorem go_maxL {xs : List Int} : GO gMax [eL D.int xs] .s (maxO xs) D.int := by
  have k : gMax [eL D.int xs] = onInts (xs.map D.int) fun ns => match ns with | [] => none | n :: ns => si (maxI n ns) := rfl
  unfold onInts at k
  rw [intsD_mp] at k
  cases xs with
  | nil => exact ⟨trivial⟩
  | cons n ns => exact ⟨⟨_, k, rfl⟩⟩
theorem go_minL {xs : List Int} : GO gMin [eL D.int xs] .s (minO xs) D.int := by
  have k : gMin [eL D.int xs] = onInts (xs.map D.int) fun ns => match ns with | [] => none | n :: ns => si (minI n ns) := rfl
  unfold onInts at k
  rw [intsD_mp] at k
  cases xs with
  | nil => exact ⟨trivial⟩
  | cons n ns => exact ⟨⟨_, k, rfl⟩⟩
theorem go_tupL {e : α → D} {xs : List α} : GO (gg1 gTupOf) [eL e xs] .s (.ok xs) (eT e) := go_s rfl
theorem go_tupT {e : α → D} {xs : List α} : GO (gg1 gTupOf) [eT e xs] .s (.ok xs) (eT e) := go_s rfl
theorem go_lstT {e : α → D} {xs : List α} : GO (gg1 gLstOf) [eT e xs] .o (.ok xs) (eL e) := go_o rfl
theorem go_lstL {e : α → D} {xs : List α} : GO (gg1 gLstOf) [eL e xs] .o (.ok xs) (eL e) := go_o rfl
theorem blsD_mp : ∀ {l : List Bool}, blsD (l.map D.bl) = some l
  | [] => rfl
  | a :: l => by
    rw [List.map_cons]
    show (blsD (l.map D.bl)).map (a :: ·) = _
    rw [blsD_mp]; rfl
theorem go_all {xs : List Bool} : GO (gg1 gAll) [eL D.bl xs] .s (.ok (xs.all id)) D.bl := go_s (by
  show (match blsD (xs.map D.bl) with | some bs => sb (bs.all id) | none => none) = _
  rw [blsD_mp]; rfl)
theorem go_any {xs : List Bool} : GO (gg1 gAny) [eL D.bl xs] .s (.ok (xs.any id)) D.bl := go_s (by
  show (match blsD (xs.map D.bl) with | some bs => sb (bs.any id) | none => none) = _
  rw [blsD_mp]; rfl)
theorem go_sum {xs : List Int} : GO (gg1 gSum) [eL D.int xs] .s (.ok xs.sum) D.int := go_s (by
  show onInts (xs.map D.int) (fun ns => si ns.sum) = _
  unfold onInts
  rw [intsD_mp]; rfl)
theorem go_srt {xs : List Int} : GO (gg1 gSorted) [eL D.int xs] .o (.ok (srtI xs)) (eL D.int) := go_o (by
  show (match intsD (xs.map D.int) with | some ns => sl ((srtI ns).map D.int) | none => _) = _
  rw [intsD_mp]; rfl)
theorem go_srtSetL {xs : List Int} : GO (gg1 gSortSet) [eL D.int xs] .o (sortSetO xs) (eL D.int) := by
  unfold sortSetO
  refine go_if fun c => go_o ?_
  show onInts (xs.map D.int) (fun ns => if decide (ns.length ≤ 4000) then (if decide ((srtU ns).length < 64) then sl ((srtU ns).map D.int) else none) else none) = _
  unfold onInts
  rw [intsD_mp]
  dsimp only
  rw [if_pos (decide_eq_true c.1), if_pos (decide_eq_true c.2)]; rfl
theorem go_srtSetT {xs : List Int} : GO (gg1 gSortSet) [eT D.int xs] .o (sortSetO xs) (eL D.int) := ⟨(go_srtSetL (xs := xs)).go⟩
theorem go_lenSetL {xs : List Int} : GO (gg1 gLenSet) [eL D.int xs] .s (lenSetO xs) D.int := by
  unfold lenSetO
  refine go_if fun c => go_s ?_
  show onInts (xs.map D.int) (fun ns => if decide (ns.length ≤ 4000) then si (srtU ns).length else none) = _
  unfold onInts
  rw [intsD_mp]
  dsimp only
  rw [if_pos (decide_eq_true c)]; rfl
theorem go_repr {d : D} : GO (gg1 gRepr) [d] .s (reprO d) D.str := by
  unfold reprO
  refine go_if fun c => go_s ?_
  show (if _ then ss _ else none) = _
  rw [if_pos c]; rfl
theorem cut_map {e : α → D} {xs : List α} {lo hi : Option Int} : cutD (xs.map e) lo hi = (cutL xs lo hi).map e := by
  unfold cutD cutL
  rw [List.length_map, ← List.map_drop, ← List.map_take]
theorem go_c00L {e : α → D} {xs : List α} : GO (gg1 gCut00) [eL e xs] .o (.ok (cutL xs none none)) (eL e) := go_o (by show some (Sl.ow (.lst (cutD (xs.map e) none none))) = _; rw [cut_map]; rfl)
theorem go_c10L {e : α → D} {xs : List α} {i : Int} : GO (gg2 gCut10) [eL e xs, .int i] .o (.ok (cutL xs (some i) none)) (eL e) := go_o (by show some (Sl.ow (.lst (cutD (xs.map e) (some i) none))) = _; rw [cut_map]; rfl)
theorem go_c01L {e : α → D} {xs : List α} {i : Int} : GO (gg2 gCut01) [eL e xs, .int i] .o (.ok (cutL xs none (some i))) (eL e) := go_o (by show some (Sl.ow (.lst (cutD (xs.map e) none (some i)))) = _; rw [cut_map]; rfl)
theorem go_c11L {e : α → D} {xs : List α} {i j : Int} : GO (gg3 gCut11) [eL e xs, .int i, .int j] .o (.ok (cutL xs (some i) (some j))) (eL e) := go_o (by show some (Sl.ow (.lst (cutD (xs.map e) (some i) (some j)))) = _; rw [cut_map]; rfl)
theorem go_c00T {e : α → D} {xs : List α} : GO (gg1 gCut00) [eT e xs] .s (.ok (cutL xs none none)) (eT e) := go_s (by show some (Sl.sh (.tup (cutD (xs.map e) none none))) = _; rw [cut_map]; rfl)
theorem go_c10T {e : α → D} {xs : List α} {i : Int} : GO (gg2 gCut10) [eT e xs, .int i] .s (.ok (cutL xs (some i) none)) (eT e) := go_s (by show some (Sl.sh (.tup (cutD (xs.map e) (some i) none))) = _; rw [cut_map]; rfl)
theorem go_c01T {e : α → D} {xs : List α} {i : Int} : GO (gg2 gCut01) [eT e xs, .int i] .s (.ok (cutL xs none (some i))) (eT e) := go_s (by show some (Sl.sh (.tup (cutD (xs.map e) none (some i)))) = _; rw [cut_map]; rfl)
theorem go_c11T {e : α → D} {xs : List α} {i j : Int} : GO (gg3 gCut11) [eT e xs, .int i, .int j] .s (.ok (cutL xs (some i) (some j))) (eT e) := go_s (by show some (Sl.sh (.tup (cutD (xs.map e) (some i) (some j)))) = _; rw [cut_map]; rfl)
theorem pickT_map {e : α → D} {xs : List α} {lo hi : Option Int} {k : Int} : pickT (xs.map e) lo hi k = (pickT xs lo hi k).map e := by
  unfold pickT
  rw [List.length_map, List.map_filterMap]
  congr 1
  funext m
  rw [List.getElem?_map]
theorem pickL_map {e : α → D} {xs : List α} {lo hi : Option Int} {k : Int} : pickL (xs.map e) lo hi k = (pickL xs lo hi k).map e := by
  unfold pickL
  rw [List.length_map, List.map_filterMap]
  congr 1
  funext m
  rw [List.getElem?_map]
theorem go_stT {e : α → D} {xs : List α} {k : Int} : GO (gg2 gStep01) [eT e xs, .int k] .s (stepTO xs none k) (eT e) := by
  unfold stepTO
  refine go_if fun c => go_s ?_
  show (if decide (k ≠ 0 ∧ k ≠ 1) then fits (pickT (xs.map e) none none k).length (DL.st (pickT (xs.map e) none none k)) else none) = _
  rw [if_pos (decide_eq_true ⟨c.1, c.2.1⟩), pickT_map]
  unfold fits
  rw [List.length_map, if_pos c.2.2]; rfl
theorem go_stT1 {e : α → D} {xs : List α} {i k : Int} : GO (gg3 gStep11) [eT e xs, .int i, .int k] .s (stepTO xs (some i) k) (eT e) := by
  unfold stepTO
  refine go_if fun c => go_s ?_
  show (if decide (k ≠ 0 ∧ k ≠ 1) then fits (pickT (xs.map e) (some i) none k).length (DL.st (pickT (xs.map e) (some i) none k)) else none) = _
  rw [if_pos (decide_eq_true ⟨c.1, c.2.1⟩), pickT_map]
  unfold fits
  rw [List.length_map, if_pos c.2.2]; rfl
theorem go_stL {e : α → D} {xs : List α} {k : Int} : GO (gg2 gStep01) [eL e xs, .int k] .o (stepLO xs none k) (eL e) := by
  unfold stepLO
  refine go_if fun c => go_o ?_
  show (if decide (k ≠ 0) then sl (pickL (xs.map e) none none k) else none) = _
  rw [if_pos (decide_eq_true c), pickL_map]; rfl
theorem go_stL1 {e : α → D} {xs : List α} {i k : Int} : GO (gg3 gStep11) [eL e xs, .int i, .int k] .o (stepLO xs (some i) k) (eL e) := by
  unfold stepLO
  refine go_if fun c => go_o ?_
  show (if decide (k ≠ 0) then sl (pickL (xs.map e) (some i) none k) else none) = _
  rw [if_pos (decide_eq_true c), pickL_map]; rfl
theorem go_catL {e : α → D} {xs ys : List α} : GO (gg2 DL.gAdd) [eL e xs, eL e ys] .o (catO xs ys) (eL e) := by
  unfold catO
  refine go_if fun c => go_o ?_
  show fits ((xs.map e).length + (ys.map e).length) (DL.sl (xs.map e ++ ys.map e)) = _
  unfold fits
  rw [List.length_map, List.length_map, if_pos c, ← List.map_append]; rfl
theorem go_catT {e : α → D} {xs ys : List α} : GO (gg2 DL.gAdd) [eT e xs, eT e ys] .s (catO xs ys) (eT e) := by
  unfold catO
  refine go_if fun c => go_s ?_
  show fits ((xs.map e).length + (ys.map e).length) (DL.st (xs.map e ++ ys.map e)) = _
  unfold fits
  rw [List.length_map, List.length_map, if_pos c, ← List.map_append]; rfl
theorem rep_map {e : α → D} {xs : List α} : ∀ m : Nat, (List.replicate m (xs.map e)).flatten = (List.replicate m xs).flatten.map e
  | 0 => rfl
  | m + 1 => by rw [List.replicate_succ, List.replicate_succ, List.flatten_cons, List.flatten_cons, List.map_append, rep_map m]
theorem go_repL {e : α → D} {xs : List α} {k : Int} : GO (gg2 DL.gMul) [eL e xs, .int k] .o (repO xs k) (eL e) := by
  unfold repO
  refine go_if fun c => go_o ?_
  show (if decide (0 ≤ k ∧ k < 2 ^ 30) then fits ((xs.map e).length * k.toNat) (sl (List.replicate k.toNat (xs.map e)).flatten) else none) = _
  rw [if_pos (decide_eq_true ⟨c.1, c.2.1⟩)]
  unfold fits
  rw [List.length_map, if_pos c.2.2, rep_map]; rfl
theorem go_repT {e : α → D} {xs : List α} {k : Int} : GO (gg2 DL.gMul) [eT e xs, .int k] .s (repTO xs k) (eT e) := by
  unfold repTO
  refine go_if fun c => go_s ?_
  show (if decide ((xs.map e) ≠ []) && decide (2 ≤ k ∧ k ≤ 1000) && decide ((xs.map e).length ≤ 1000) then DL.st (List.replicate k.toNat (xs.map e)).flatten else none) = _
  have c1 : decide ((xs.map e) ≠ []) = true := decide_eq_true fun h => c.1 (by rw [← List.length_map (f := e), h]; rfl)
  have c2 : decide (2 ≤ k ∧ k ≤ 1000) = true := decide_eq_true ⟨c.2.1, c.2.2.1⟩
  have c3 : decide ((xs.map e).length ≤ 1000) = true := decide_eq_true (by rw [List.length_map]; exact c.2.2.2)
  rw [c1, c2, c3, rep_map]
  rfl
/-! displays -/
theorem sz1000 {n : Nat} (h : Nat.ble n 1000 = true) : n ≤ sizeLine := by
  have := Nat.le_of_ble_eq_true h
  rw [sizeLine_eq]; omega
theorem go_tup {ds : List D} {a : τ} {en : τ → D} (h : Nat.ble ds.length 1000 = true) (he : en a = .tup ds) : GO DL.gTup ds .s (.ok a) en := go_s (by rw [w_tup (sz1000 h), he])
theorem go_lst {ds : List D} {a : τ} {en : τ → D} (h : Nat.ble ds.length 1000 = true) (he : en a = .lst ds) : GO DL.gLst ds .o (.ok a) en := go_o (by rw [w_lst (sz1000 h), he])
theorem go_isi {T : String} {d : D} : GO (gg1 (gIsi T)) [d] .s (isiO T d) D.bl := by
  unfold isiO
  refine go_if fun c => go_s ?_
  show (if notDt d then sb _ else none) = _
  rw [if_pos c]; rfl
theorem go_isis {Ts : List String} {d : D} : GO (gg1 (gIsis Ts)) [d] .s (isisO Ts d) D.bl := by
  unfold isisO
  refine go_if fun c => go_s ?_
  show (if notDt d then sb _ else none) = _
  rw [if_pos c]; rfl
theorem go_isN {d : D} : GO (gg2 gIsN) [d, .non] .s (.ok (isNon d)) D.bl := go_s rfl
theorem go_notN {d : D} : GO (gg2 gNotN) [d, .non] .s (.ok (!isNon d)) D.bl := go_s rfl
theorem go_intb {b : Bool} : GO (gg1 gInt) [.bl b] .s (.ok (if b then 1 else 0)) D.int := go_s rfl
theorem go_inti {b : Int} : GO (gg1 gInt) [.int b] .s (.ok b) D.int := go_s rfl
/-! ranges as tuples, lists -/
theorem rngD_1 {a b : Int} : rngD a (b - a).toNat 1 = (irng a b).map D.int := by
  unfold rngD irng
  rw [List.map_map]
  refine List.map_congr_left fun i _ => ?_
  show D.int (a + (i : Nat) * 1) = .int (a + (i : Nat))
  rw [Int.mul_one]
theorem rngD_0 {b : Int} : rngD 0 b.toNat 1 = (irng 0 b).map D.int := by rw [← rngD_1, Int.sub_zero]
theorem rngD_d {a b : Int} : rngD a (a - b).toNat (-1) = (irngD a b).map D.int := by
  unfold rngD irngD
  rw [List.map_map]
  refine List.map_congr_left fun i _ => ?_
  show D.int (a + (i : Nat) * -1) = .int (a - (i : Nat))
  rw [show a + (i : Nat) * -1 = a - (i : Nat) by omega]
theorem go_rgT1 {b : Int} : GO gRgT [.int b] .s (rngL1 b) (eT D.int) := by
  unfold rngL1
  refine go_if fun c => go_s ?_
  show (if rgOkB 0 b then DL.st (rngD 0 (b - 0).toNat 1) else none) = _
  rw [rgB_eq] at c
  rw [if_pos c, rngD_1]; rfl
theorem go_rgT2 {a b : Int} : GO gRgT [.int a, .int b] .s (rngL2 a b) (eT D.int) := by
  unfold rngL2
  refine go_if fun c => go_s ?_
  show (if rgOkB a b then DL.st (rngD a (b - a).toNat 1) else none) = _
  rw [rgB_eq] at c
  rw [if_pos c, rngD_1]; rfl
theorem go_rgL1 {b : Int} : GO gRgL [.int b] .o (rngL1 b) (eL D.int) := by
  unfold rngL1
  refine go_if fun c => go_o ?_
  show (if rgOkB 0 b then DL.sl (rngD 0 (b - 0).toNat 1) else none) = _
  rw [rgB_eq] at c
  rw [if_pos c, rngD_1]; rfl
theorem go_rgL2 {a b : Int} : GO gRgL [.int a, .int b] .o (rngL2 a b) (eL D.int) := by
  unfold rngL2
  refine go_if fun c => go_o ?_
  show (if rgOkB a b then DL.sl (rngD a (b - a).toNat 1) else none) = _
  rw [rgB_eq] at c
  rw [if_pos c, rngD_1]; rfl
/-! ### methods -/
theorem gm_if {g : D → List D → Option (D × D)} {d : D} {ds : List D} {c : Prop} [Decidable c] {a : τ} {eo en : τ → D} (h : c → g d ds = some (eo a, en a)) : GM g d ds (if c then .ok a else .bad) eo en := by
  by_cases q : c
  · rw [if_pos q]; exact ⟨h q⟩
  · rw [if_neg q]; exact ⟨trivial⟩
theorem gm_app {e : α → D} {xs : List α} {x : α} : GM gApp (eL e xs) [e x] (appO xs x) (eL e) (fun _ => .non) := by
  unfold appO
  refine gm_if fun c => ?_
  show (if decide ((xs.map e).length < sizeLine) then some (D.lst (xs.map e ++ [e x]), D.non) else none) = _
  rw [if_pos (decide_eq_true (by rw [List.length_map]; exact c))]
  show _ = some (D.lst ((xs ++ [x]).map e), D.non)
  rw [List.map_append]; rfl
theorem gm_ext {e : α → D} {xs ys : List α} : GM gExt (eL e xs) [eL e ys] (extO xs ys) (eL e) (fun _ => .non) := by
  unfold extO
  refine gm_if fun c => ?_
  show (if decide ((xs.map e).length + (ys.map e).length ≤ sizeLine) then some (D.lst (xs.map e ++ ys.map e), D.non) else none) = _
  rw [if_pos (decide_eq_true (by rw [List.length_map, List.length_map]; exact c))]
  show _ = some (D.lst ((xs ++ ys).map e), D.non)
  rw [List.map_append]
theorem gm_pop {e : α → D} {xs : List α} : GM gPop (eL e xs) [] (popO xs) (fun p => eL e p.1) (fun p => e p.2) := by
  have k : gPop (eL e xs) [] = match (xs.map e)[(xs.map e).length - 1]? with
    | some d => some (.lst (xs.map e).dropLast, d)
    | none => none := rfl
  rw [List.length_map, List.getElem?_map] at k
  unfold popO
  cases h : xs[xs.length - 1]? with
  | none => exact ⟨trivial⟩
  | some d =>
    rw [h] at k
    refine ⟨?_⟩
    show gPop (eL e xs) [] = some (D.lst (xs.dropLast.map e), e d)
    rw [k, List.map_dropLast]
    rfl
theorem erase_map {e : α → D} : ∀ {xs : List α} {i : Nat}, (xs.map e).eraseIdx i = (xs.eraseIdx i).map e
  | [], _ => rfl
  | _ :: _, 0 => rfl
  | x :: xs, i + 1 => by rw [List.map_cons, List.eraseIdx_cons_succ, List.eraseIdx_cons_succ, List.map_cons, erase_map]
theorem gm_popI {e : α → D} {xs : List α} {i : Int} : GM gPop (eL e xs) [.int i] (popIO xs i) (fun p => eL e p.1) (fun p => e p.2) := by
  have k : gPop (eL e xs) [.int i] = if decide (-(2 ^ 63) ≤ i ∧ i < 2 ^ 63) then (match seqIndex? i (xs.map e).length with
    | some k => (match (xs.map e)[k]? with
      | some d => some (.lst ((xs.map e).eraseIdx k), d)
      | none => none)
    | none => none) else none := rfl
  rw [List.length_map] at k
  unfold popIO
  have e63 : (2 : Int) ^ 63 = 9223372036854775808 := by decide
  rw [e63] at k
  by_cases c : -9223372036854775808 ≤ i ∧ i < 9223372036854775808
  · rw [if_pos c]
    rw [if_pos (decide_eq_true c)] at k
    cases h : seqIndex? i xs.length with
    | none => exact ⟨trivial⟩
    | some j =>
      rw [h] at k
      dsimp only at k ⊢
      rw [List.getElem?_map] at k
      cases h2 : xs[j]? with
      | none => exact ⟨trivial⟩
      | some d =>
        rw [h2] at k
        refine ⟨?_⟩
        show gPop (eL e xs) [.int i] = some (D.lst ((xs.eraseIdx j).map e), e d)
        rw [k, erase_map]
        rfl
  · rw [if_neg c]; exact ⟨trivial⟩
theorem gs_set {e : α → D} {xs : List α} {k : Int} {v : α} : GS (eL e xs) (.int k) (e v) (setO xs k v) (eL e) := by
  have q : DL.gSet (eL e xs) (.int k) (e v) = match ixN (xs.map e).length k with
    | some j => some (.lst ((xs.map e).set j (e v)))
    | none => none := rfl
  rw [List.length_map] at q
  unfold setO
  cases h : ixN xs.length k with
  | none => exact ⟨trivial⟩
  | some j =>
    rw [h] at q
    refine ⟨?_⟩
    show DL.gSet (eL e xs) (.int k) (e v) = some (D.lst ((xs.set j v).map e))
    rw [q, List.map_set]
/-! ### sources -/
theorem gl_if {g : List D → Option (List D)} {ds : List D} {c : Prop} [Decidable c] {a : τ} {l : τ → List D} (h : c → g ds = some (l a)) : GL g ds (if c then .ok a else .bad) l := by
  by_cases q : c
  · rw [if_pos q]; exact ⟨h q⟩
  · rw [if_neg q]; exact ⟨trivial⟩
theorem gl_r1 {j : Int} : GL gRng [.int j] (rng1 j) (fun a => a.map D.int) := by
  unfold rng1
  exact gl_if fun c => by rw [rngB_eq] at c; rw [w_r1 c, rngD_0]
theorem gl_r2 {i j : Int} : GL gRng [.int i, .int j] (rng2 i j) (fun a => a.map D.int) := by
  unfold rng2
  exact gl_if fun c => by
    rw [rngB_eq, rngB_eq] at c
    obtain ⟨c1, c2⟩ := Bool.and_eq_true_iff.mp c
    rw [w_r2 c1 c2, rngD_1]
theorem gl_rd {i j : Int} : GL gRng [.int i, .int j, .int (-1)] (rngDn i j) (fun a => a.map D.int) := by
  unfold rngDn
  exact gl_if fun c => by
    rw [rngB_eq, rngB_eq] at c
    show (if rngOk i && rngOk j && ((-1 : Int) == -1) then some (rngD i (i - j).toNat (-1)) else none) = _
    rw [c, rngD_d]; rfl
theorem zip_map {e1 : α → D} {e2 : β → D} : ∀ {xs : List α} {ys : List β}, List.zipWith (fun x y => D.tup [x, y]) (xs.map e1) (ys.map e2) = (List.zip xs ys).map (eP2 e1 e2)
  | [], _ => by simp
  | _ :: _, [] => by simp
  | x :: xs, y :: ys => by
    rw [List.map_cons, List.map_cons, List.zipWith_cons_cons, zip_map, List.zip_cons_cons, List.map_cons]; rfl
theorem gl_z2 {e1 : α → D} {e2 : β → D} {xs : List α} {ys : List β} {a b : D} (h1 : itemsD a = some (xs.map e1)) (h2 : itemsD b = some (ys.map e2)) : GL gZip [a, b] (.ok (List.zip xs ys)) (fun l => l.map (eP2 e1 e2)) := by
  refine ⟨?_⟩
  show gZip [a, b] = _
  rw [w_z2 h1 h2, zip_map]
theorem zip3_map {e1 : α → D} {e2 : β → D} {e3 : γ → D} : ∀ {xs : List α} {ys : List β} {zs : List γ}, List.zipWith (fun (p : D × D) z => D.tup [p.1, p.2, z]) (List.zipWith Prod.mk (xs.map e1) (ys.map e2)) (zs.map e3) = (List.zip xs (List.zip ys zs)).map (eP3 e1 e2 e3)
  | [], _, _ => by simp
  | _ :: _, [], _ => by simp
  | _ :: _, _ :: _, [] => by simp
  | x :: xs, y :: ys, z :: zs => by
    simp only [List.map_cons, List.zipWith_cons_cons, List.zip_cons_cons, zip3_map]; rfl
theorem gl_z3 {e1 : α → D} {e2 : β → D} {e3 : γ → D} {xs : List α} {ys : List β} {zs : List γ} {a b c : D} (h1 : itemsD a = some (xs.map e1)) (h2 : itemsD b = some (ys.map e2)) (h3 : itemsD c = some (zs.map e3)) : GL gZip [a, b, c] (.ok (List.zip xs (List.zip ys zs))) (fun l => l.map (eP3 e1 e2 e3)) := by
  refine ⟨?_⟩
  show (match itemsD a, itemsD b, itemsD c with | some xs, some ys, some zs => some (List.zipWith (fun (p : D × D) z => D.tup [p.1, p.2, z]) (List.zipWith Prod.mk xs ys) zs) | _, _, _ => none) = _
  rw [h1, h2, h3]
  dsimp only
  rw [zip3_map]
theorem gl_en {e : α → D} {xs : List α} {a : D} (h : itemsD a = some (xs.map e)) : GL gEnum [a] (.ok (enumI xs)) (fun l => l.map (eP2 D.int e)) := by
  refine ⟨?_⟩
  show (match itemsD a with | some xs => some (xs.mapIdx fun i x => D.tup [.int (i : Nat), x]) | _ => none) = _
  rw [h]
  unfold enumI
  dsimp only
  congr 1
  apply List.ext_getElem?
  intro i
  rw [List.getElem?_mapIdx, List.getElem?_map, List.getElem?_map, List.getElem?_mapIdx]
  cases xs[i]? <;> rfl
end
end DL

end
section
set_option maxRecDepth 100000
set_option maxHeartbeats 2000000
/-! DX5: rules that the printer of typed functions uses besides. -/
namespace DL
open PySem PySem.Spec PyProof.Rows L2
section
variable {α β τ τ' τ1 τ0 σ κ ρ : Type} {fr fr' : FD} {F0 : τ → FD} {F : τ' → FD} {t : O τ}
/-- the value told otherwise -/
theorem x_map {m : M β} {Q : τ → β → Prop} {Q' : τ' → β → Prop} {k : τ → τ'} (h : X fr m t Q F0) (he : ∀ v b, Q v b → Q' (k v) b) (l : ∀ v, FLe (F0 v) (F (k v))) : X fr m (bnd t fun v => .ok (k v)) Q' F := .mk fun e suf hf => by
  have z := h.run e suf hf
  cases t with
  | bad => trivial
  | ex x => exact z
  | ok a =>
    obtain ⟨b, e', z1, z2, z3⟩ := z
    exact ⟨b, e', z1, he _ _ z2, l _ _ z3⟩
theorem xe_map {m : M Sl} {w : Tk} {en : τ → D} {en' : τ' → D} {k : τ → τ'} (h : XE fr m w t en F0) (he : ∀ v, en' (k v) = en v) (l : ∀ v, FLe (F0 v) (F (k v))) : XE fr m w (bnd t fun v => .ok (k v)) en' F := x_map h (fun v b q => by unfold RT at q ⊢; rw [he]; exact q) l
theorem xe_cast {m : M Sl} {w : Tk} {a0 : τ} {a : τ'} {en0 : τ → D} {en : τ' → D} (h : XE fr m w (.ok a0) en0 F0) (he : en a = en0 a0) : XE fr m w (.ok a) en (fun _ => F0 a0) := .mk fun e suf hf => by
  obtain ⟨b, e', z1, z2, z3⟩ := h.run e suf hf
  exact ⟨b, e', z1, by unfold RT at z2 ⊢; rw [he]; exact z2, z3⟩
theorem xe_castL {m : M Sl} {w : Tk} {a0 : τ} {a : τ'} {en0 : τ → D} {en : τ' → D} (h : XE fr m w (.ok a0) en0 F0) (he : en a = en0 a0) (l : FLe (F0 a0) fr') : XE fr m w (.ok a) en (fun _ => fr') := .mk fun e suf hf => by
  obtain ⟨b, e', z1, z2, z3⟩ := h.run e suf hf
  exact ⟨b, e', z1, by unfold RT at z2 ⊢; rw [he]; exact z2, l _ z3⟩
theorem xt_notP {c : M Bool} {a : Bool} {F1 : Bool → FD} (h : XT fr c (.ok a) id F1) : XT fr (tNotM c) (.ok (!a)) id (fun _ => F1 a) := .mk fun e suf hf => by
  obtain ⟨q, e', z1, z2, z3⟩ := (xt_not h).run e suf hf
  exact ⟨q, e', z1, z2, z3⟩
theorem xt_map {c : M Bool} {b : τ → Bool} {b' : τ' → Bool} {k : τ → τ'} (h : XT fr c t b F0) (he : ∀ v, b' (k v) = b v) (l : ∀ v, FLe (F0 v) (F (k v))) : XT fr c (bnd t fun v => .ok (k v)) b' F := x_map h (fun v b q => by unfold Rb at q ⊢; rw [he]; exact q) l
theorem xt_toP {c : M Bool} {a : Bool} {F1 : Bool → FD} (h : XT fr c (.ok a) id F1) (l : FLe (F1 a) fr') : XT fr c (.ok a) id (fun _ => fr') := .mk fun e suf hf => by
  obtain ⟨q, e', z1, z2, z3⟩ := h.run e suf hf
  exact ⟨q, e', z1, z2, l _ z3⟩
/-- and, or in full -/
theorem xt_andG {c c2 : M Bool} {b1 : τ → Bool} {b : τ' → Bool} {t2 : τ → O τ'} {r : τ → τ'} (h : XT fr c t b1 F0) (h2 : ∀ a, XT (F0 a) c2 (t2 a) b F) (hr : ∀ a, b (r a) = false) (l : ∀ a, FLe (F0 a) (F (r a))) : XT fr (tAndM c c2) (bnd t fun a => if b1 a then t2 a else .ok (r a)) b F := by
  refine x_bd h fun a q z => ?_
  cases (show q = b1 a from z)
  cases hb : b1 a with
  | true => exact h2 a
  | false => exact x_pure (b := false) (fun e suf hf => ⟨e, rfl, l a _ hf⟩) (hr a).symm
theorem xt_orG {c c2 : M Bool} {b1 : τ → Bool} {b : τ' → Bool} {t2 : τ → O τ'} {r : τ → τ'} (h : XT fr c t b1 F0) (h2 : ∀ a, XT (F0 a) c2 (t2 a) b F) (hr : ∀ a, b (r a) = true) (l : ∀ a, FLe (F0 a) (F (r a))) : XT fr (tOrM c c2) (bnd t fun a => if b1 a then .ok (r a) else t2 a) b F := by
  refine x_bd h fun a q z => ?_
  cases (show q = b1 a from z)
  cases hb : b1 a with
  | false => exact h2 a
  | true => exact x_pure (b := true) (fun e suf hf => ⟨e, rfl, l a _ hf⟩) (hr a).symm
theorem xt_andPG {c c2 : M Bool} {a : Bool} {F1 : Bool → FD} {b : τ' → Bool} {t2 : O τ'} {r : τ'} (h : XT fr c (.ok a) id F1) (h2 : XT (F1 a) c2 t2 b F) (hr : b r = false) (l : FLe (F1 a) (F r)) : XT fr (tAndM c c2) (if a then t2 else .ok r) b F := by
  refine x_bdP h fun q z => ?_
  cases (show q = a from z)
  cases a with
  | true => exact h2
  | false => exact x_pure (b := false) (fun e suf hf => ⟨e, rfl, l _ hf⟩) hr.symm
theorem xt_orPG {c c2 : M Bool} {a : Bool} {F1 : Bool → FD} {b : τ' → Bool} {t2 : O τ'} {r : τ'} (h : XT fr c (.ok a) id F1) (h2 : XT (F1 a) c2 t2 b F) (hr : b r = true) (l : FLe (F1 a) (F r)) : XT fr (tOrM c c2) (if a then .ok r else t2) b F := by
  refine x_bdP h fun q z => ?_
  cases (show q = a from z)
  cases a with
  | false => exact h2
  | true => exact x_pure (b := true) (fun e suf hf => ⟨e, rfl, l _ hf⟩) hr.symm
/-- the same as values -/
theorem xe_andG {f g : M Sl} {w : Tk} {b1 : τ → Bool} {en : τ → D} {en' : τ' → D} {t2 : τ → O τ'} {r : τ → τ'} (h : XE fr f w t en F0) (hb : ∀ a, en a = .bl (b1 a)) (h2 : ∀ a, XE (F0 a) g .s (t2 a) en' F) (hr : ∀ a, en' (r a) = .bl false) (l : ∀ a, FLe (F0 a) (F (r a))) : XE fr (eAnd (.val f) g) .s (bnd t fun a => if b1 a then t2 a else .ok (r a)) en' F := by
  show X fr (fun e => bd (opsM [.val f] e) (kAn g)) _ _ _
  refine xj_e h fun a => xj_nil ?_
  rw [hb]
  cases hq : b1 a with
  | true => exact h2 a
  | false => exact x_pure (b := .sh (.bl false)) (fun e suf hf => ⟨e, rfl, l a _ hf⟩) (by unfold RT; rw [hr])
theorem xe_orG {f g : M Sl} {w : Tk} {b1 : τ → Bool} {en : τ → D} {en' : τ' → D} {t2 : τ → O τ'} {r : τ → τ'} (h : XE fr f w t en F0) (hb : ∀ a, en a = .bl (b1 a)) (h2 : ∀ a, XE (F0 a) g .s (t2 a) en' F) (hr : ∀ a, en' (r a) = .bl true) (l : ∀ a, FLe (F0 a) (F (r a))) : XE fr (eOr (.val f) g) .s (bnd t fun a => if b1 a then .ok (r a) else t2 a) en' F := by
  show X fr (fun e => bd (opsM [.val f] e) (kOr g)) _ _ _
  refine xj_e h fun a => xj_nil ?_
  rw [hb]
  cases hq : b1 a with
  | false => exact h2 a
  | true => exact x_pure (b := .sh (.bl true)) (fun e suf hf => ⟨e, rfl, l a _ hf⟩) (by unfold RT; rw [hr])
theorem xe_andPG {f g : M Sl} {w : Tk} {a : Bool} {F1 : Bool → FD} {en' : τ' → D} {t2 : O τ'} {r : τ'} (h : XE fr f w (.ok a) D.bl F1) (h2 : XE (F1 a) g .s t2 en' F) (hr : en' r = .bl false) (l : FLe (F1 a) (F r)) : XE fr (eAnd (.val f) g) .s (if a then t2 else .ok r) en' F := by
  show X fr (fun e => bd (opsM [.val f] e) (kAn g)) _ _ _
  refine xj_p h (xj_nil ?_)
  cases a with
  | true => exact h2
  | false => exact x_pure (b := .sh (.bl false)) (fun e suf hf => ⟨e, rfl, l _ hf⟩) (by unfold RT; rw [hr])
theorem xe_orPG {f g : M Sl} {w : Tk} {a : Bool} {F1 : Bool → FD} {en' : τ' → D} {t2 : O τ'} {r : τ'} (h : XE fr f w (.ok a) D.bl F1) (h2 : XE (F1 a) g .s t2 en' F) (hr : en' r = .bl true) (l : FLe (F1 a) (F r)) : XE fr (eOr (.val f) g) .s (if a then .ok r else t2) en' F := by
  show X fr (fun e => bd (opsM [.val f] e) (kOr g)) _ _ _
  refine xj_p h (xj_nil ?_)
  cases a with
  | false => exact h2
  | true => exact x_pure (b := .sh (.bl true)) (fun e suf hf => ⟨e, rfl, l _ hf⟩) (by unfold RT; rw [hr])
theorem xe_notP {f : M Sl} {w : Tk} {a : τ} {en : τ → D} {b : Bool} {F1 : τ → FD} (h : XE fr f w (.ok a) en F1) (hb : truD (en a) = some b) : XE fr (eNot (.val f)) .s (.ok (!b)) D.bl (fun _ => F1 a) := .mk fun e suf hf => by
  obtain ⟨s, e', z1, z2, z3⟩ := h.run e suf hf
  refine ⟨.sh (.bl (!b)), e', ?_, rfl, z3⟩
  rw [show eNot (.val f) (e ++ suf) = bd (opsM [.val f] (e ++ suf)) kNo from v_no]
  show bd (bd (f _) _) _ = _
  rw [z1]
  show bd (kTv [s.d] _) _ = _
  rw [z2.d]
  unfold kTv
  dsimp only
  rw [hb]
  rfl
theorem xe_notBP {i : Nat} {b : Bool} {d : D} (h : dget fr i = some d) (hb : truD d = some b) : XE fr (eNot (.bor i)) .s (.ok (!b)) D.bl (fun _ => fr) := .mk fun e suf hf => by
  obtain ⟨s, e', z1, z2, z3⟩ := (xe_notB (a := b) (b := id) h hb).run e suf hf
  exact ⟨s, e', z1, z2, z3⟩
/-- a chain's third operand -/
theorem x_kChG {f g : Int → Int → Bool} {o3 : Opd} {i j : Int} {t3 : O Bool} {fr2 : FD} (h : X fr (fun e => bd (opsM [o3] e) (kCh2 g j)) t3 (RT .s D.bl) (fun _ => fr2)) (l : FLe fr fr2) : XE fr (kCh f g o3 [.int i, .int j]) .s (if f i j then t3 else .ok false) D.bl (fun _ => fr2) := by
  cases hf : f i j with
  | true =>
    have e : kCh f g o3 [.int i, .int j] = fun e => bd (opsM [o3] e) (kCh2 g j) := by funext e; unfold kCh; simp only [hf, if_true]
    rw [e]; exact h
  | false => exact x_pure (b := .sh (.bl false)) (fun e suf hf2 => ⟨e, by unfold kCh; simp only [hf, Bool.false_eq_true, if_false], l _ hf2⟩) rfl
theorem xe_iff {c : M Bool} {f g : M Sl} {a : Bool} {F1 : Bool → FD} {w : Tk} {t1 t2 : O τ'} {en : τ' → D} (h : XT fr c (.ok a) id F1) (h1 : XE (F1 a) f w t1 en F) (h2 : XE (F1 a) g w t2 en F) : XE fr (eIf c f g) w (if a then t1 else t2) en F := xe_if h h1 h2
theorem xe_ifp {c : M Bool} {f g : M Sl} {a : Bool} {F1 : Bool → FD} {w : Tk} {a1 a2 : τ'} {en : τ' → D} (h : XT fr c (.ok a) id F1) (h1 : XE (F1 a) f w (.ok a1) en (fun _ => fr')) (h2 : XE (F1 a) g w (.ok a2) en (fun _ => fr')) : XE fr (eIf c f g) w (.ok (if a then a1 else a2)) en (fun _ => fr') := by
  have z := xe_if h h1 h2
  cases a with
  | true => exact z
  | false => exact z
end
end DL

end
section
set_option maxRecDepth 100000
set_option maxHeartbeats 2000000
/-! DX6: more rules for the printer: comprehensions' turns, defs that change a parameter. -/
namespace DL
open PySem PySem.Spec PyProof.Rows L2
section
variable {α β τ τ' τ1 τ0 σ κ ρ : Type} {fr fr' : FD} {F0 : τ → FD} {F : τ' → FD} {t : O τ}
theorem xt_mapP {c : M Bool} {a : Bool} {F1 : Bool → FD} {r : τ'} {b : τ' → Bool} (h : XT fr c (.ok a) id F1) (he : b r = a) (l : FLe (F1 a) (F r)) : XT fr c (.ok r) b F := .mk fun e suf hf => by
  obtain ⟨q, e', z1, z2, z3⟩ := h.run e suf hf
  exact ⟨q, e', z1, (show q = b r from by rw [he]; exact z2), l _ z3⟩
theorem xe_mapP {m : M Sl} {w : Tk} {a : τ} {en : τ → D} {F1 : τ → FD} {r : τ'} {en' : τ' → D} (h : XE fr m w (.ok a) en F1) (he : en' r = en a) (l : FLe (F1 a) (F r)) : XE fr m w (.ok r) en' F := .mk fun e suf hf => by
  obtain ⟨q, e', z1, z2, z3⟩ := h.run e suf hf
  exact ⟨q, e', z1, by unfold RT at z2 ⊢; rw [he]; exact z2, l _ z3⟩
theorem emp_map {e : α → D} : ∀ {xs : List α}, (xs.map e).isEmpty = xs.isEmpty
  | [] => rfl
  | _ :: _ => rfl
theorem tru_L (e : α → D) (xs : List α) : truD (eL e xs) = some (!xs.isEmpty) := by show some (!(xs.map e).isEmpty) = _; rw [emp_map]
theorem tru_U (e : α → D) (xs : List α) : truD (eT e xs) = some (!xs.isEmpty) := by show some (!(xs.map e).isEmpty) = _; rw [emp_map]
theorem tru_R (e : α → D) (xs : List α) : truD (eR e xs) = some (!xs.isEmpty) := by show some (!(xs.map e).isEmpty) = _; rw [emp_map]
theorem map_eD (l : List D) : l.map eD = l := List.map_id' l
theorem xi_D {f : M Sl} {w : Tk} {d : D} {F1 : D → FD} (h : XE fr f w (.ok d) eD F1) : XI fr (srcV f) (seqO d) (fun l => l.map eD) (fun _ => F1 d) := .mk fun e suf hf => by
  obtain ⟨s, e', z1, z2, z3⟩ := h.run e suf hf
  unfold seqO
  cases hs : seqD d with
  | none => trivial
  | some l => exact ⟨l.map eD, e', by unfold srcV; rw [z1, bd_ok, z2.d]; show (match seqD d with | some l => R.ok l _ | none => .bad) = _; rw [hs, map_eD], rfl, z3⟩
/-! things of any kind taken as ints, truths, texts -/
def dInt : D → O Int
  | .int i => .ok i
  | _ => .bad
def dBl : D → O Bool
  | .bl i => .ok i
  | _ => .bad
def dStr : D → O Str
  | .str i => .ok i
  | _ => .bad
theorem xe_dG {m : M Sl} {w : Tk} {t : O D} {F1 : FD} {k : D → O τ} {en : τ → D} (hk : ∀ d, onO (k d) (fun a => d = en a) (fun _ => False)) (h : XE fr m w t eD (fun _ => F1)) : XE fr m w (bnd t k) en (fun _ => F1) := .mk fun e suf hf => by
  have z := h.run e suf hf
  cases t with
  | bad => trivial
  | ex x => exact z
  | ok d =>
    obtain ⟨b, e', z1, z2, z3⟩ := z
    have q := hk d
    rw [bnd_ok]
    cases hd : k d with
    | bad => trivial
    | ex x => rw [hd] at q; exact q.elim
    | ok a =>
      rw [hd] at q
      have q : d = en a := q
      exact ⟨b, e', z1, by unfold RT at z2 ⊢; rw [← q]; exact z2, z3⟩
theorem xe_dIntE {m : M Sl} {w : Tk} {t : O D} {F1 : FD} (h : XE fr m w t eD (fun _ => F1)) : XE fr m w (bnd t fun d => dInt d) D.int (fun _ => F1) := xe_dG (fun d => by cases d <;> first | exact rfl | trivial) h
theorem xe_dBlE {m : M Sl} {w : Tk} {t : O D} {F1 : FD} (h : XE fr m w t eD (fun _ => F1)) : XE fr m w (bnd t fun d => dBl d) D.bl (fun _ => F1) := xe_dG (fun d => by cases d <;> first | exact rfl | trivial) h
theorem xe_dStrE {m : M Sl} {w : Tk} {t : O D} {F1 : FD} (h : XE fr m w t eD (fun _ => F1)) : XE fr m w (bnd t fun d => dStr d) D.str (fun _ => F1) := xe_dG (fun d => by cases d <;> first | exact rfl | trivial) h
theorem xe_dInt {m : M Sl} {w : Tk} {d : D} {F1 : D → FD} (h : XE fr m w (.ok d) eD F1) : XE fr m w (dInt d) D.int (fun _ => F1 d) := xe_dIntE (t := .ok d) (xe_cast h rfl)
theorem xe_dBl {m : M Sl} {w : Tk} {d : D} {F1 : D → FD} (h : XE fr m w (.ok d) eD F1) : XE fr m w (dBl d) D.bl (fun _ => F1 d) := xe_dBlE (t := .ok d) (xe_cast h rfl)
theorem xe_dStr {m : M Sl} {w : Tk} {d : D} {F1 : D → FD} (h : XE fr m w (.ok d) eD F1) : XE fr m w (dStr d) D.str (fun _ => F1 d) := xe_dStrE (t := .ok d) (xe_cast h rfl)
/-! what may be None -/
def unO : Option α → O α
  | some a => .ok a
  | none => .bad
def allSome : List (Option α) → O (List α)
  | [] => .ok []
  | some a :: xs => bnd (allSome xs) fun ys => .ok (a :: ys)
  | none :: _ => .bad
theorem allSome_ok : ∀ {xs : List (Option α)}, onO (allSome xs) (fun ys => xs = ys.map some) (fun _ => False)
  | [] => rfl
  | none :: _ => trivial
  | some a :: xs => by
    have z := allSome_ok (xs := xs)
    unfold allSome
    cases h : allSome xs with
    | bad => trivial
    | ex x => rw [h] at z; exact z.elim
    | ok ys => rw [h] at z; show some a :: xs = (a :: ys).map some; rw [show xs = _ from z]; rfl
theorem xi_some {src : M (List D)} {e : α → D} {t : O (List (Option α))} {F1 : FD} (h : XI fr src t (fun a => a.map (eO e)) (fun _ => F1)) : XI fr src (bnd t fun a => allSome a) (fun a => a.map e) (fun _ => F1) := .mk fun ev suf hf => by
  have z := h.run ev suf hf
  cases t with
  | bad => trivial
  | ex x => exact z
  | ok a =>
    obtain ⟨b, e', z1, z2, z3⟩ := z
    have q := allSome_ok (xs := a)
    rw [bnd_ok]
    cases hs : allSome a with
    | bad => trivial
    | ex x => rw [hs] at q; exact q.elim
    | ok ys =>
      rw [hs] at q
      refine ⟨b, e', z1, ?_, z3⟩
      show b = ys.map e
      rw [show b = a.map (eO e) from z2, show a = ys.map some from q, List.map_map]
      rfl
theorem xi_someP {src : M (List D)} {e : α → D} {xs : List (Option α)} {F1 : List (Option α) → FD} (h : XI fr src (.ok xs) (fun a => a.map (eO e)) F1) : XI fr src (allSome xs) (fun a => a.map e) (fun _ => F1 xs) := xi_some (t := .ok xs) (.mk fun ev suf hf => h.run ev suf hf)
theorem xe_unOE {m : M Sl} {w : Tk} {t : O (Option α)} {e : α → D} {F1 : FD} (h : XE fr m w t (eO e) (fun _ => F1)) : XE fr m w (bnd t fun a => unO a) e (fun _ => F1) := .mk fun ev suf hf => by
  have z := h.run ev suf hf
  cases t with
  | bad => trivial
  | ex x => exact z
  | ok d =>
    obtain ⟨b, e', z1, z2, z3⟩ := z
    cases d with
    | none => trivial
    | some a => exact ⟨b, e', z1, by unfold RT at z2 ⊢; exact z2, z3⟩
theorem xe_unO {m : M Sl} {w : Tk} {o : Option α} {e : α → D} {F1 : Option α → FD} (h : XE fr m w (.ok o) (eO e) F1) : XE fr m w (unO o) e (fun _ => F1 o) := xe_unOE (t := .ok o) (xe_cast h rfl)
/-! a turn of a comprehension -/
def cElt (elt : M Sl) : M (Option D) := fun e => bd (elt e) fun s e3 => .ok (some s.d) e3
section
variable {enβ : β → D} {elt : M Sl} {c : M Bool} {G : Option β × σ → FD}
theorem cb_elP {w : Tk} {v : τ} {en : τ → D} {F1 : τ → FD} {r : Option β × σ} (h : XE fr elt w (.ok v) en F1) (he : r.1.map enβ = some (en v)) (l : FLe (F1 v) (G r)) : X fr (cElt elt) (.ok r) (fun r q => q = r.1.map enβ) G := .mk fun e suf hf => by
  obtain ⟨s, e', z1, z2, z3⟩ := h.run e suf hf
  exact ⟨some s.d, e', by unfold cElt; rw [z1]; rfl, by show some s.d = r.1.map enβ; rw [he, z2.d], l _ z3⟩
theorem cb_el {w : Tk} {t : O τ} {en : τ → D} {F1 : τ → FD} {k : τ → Option β × σ} (h : XE fr elt w t en F1) (he : ∀ a, (k a).1.map enβ = some (en a)) (l : ∀ a, FLe (F1 a) (G (k a))) : X fr (cElt elt) (bnd t fun a => .ok (k a)) (fun r q => q = r.1.map enβ) G := .mk fun e suf hf => by
  have z := h.run e suf hf
  cases t with
  | bad => trivial
  | ex x => obtain ⟨e', z⟩ := z; exact ⟨e', by unfold cElt; rw [z]; rfl⟩
  | ok a =>
    obtain ⟨s, e', z1, z2, z3⟩ := z
    exact ⟨some s.d, e', by unfold cElt; rw [z1]; rfl, by show some s.d = (k a).1.map enβ; rw [he, z2.d], l _ _ z3⟩
theorem cb_yes {t : O (Option β × σ)} {Q : Option β × σ → Option D → Prop} (h : X fr (cElt elt) t Q G) : X fr (cBody tYesM elt) t Q G := h
theorem cb_p {q : Bool} {F1 : Bool → FD} {t2 : O (Option β × σ)} {r : Option β × σ} (h : XT fr c (.ok q) id F1) (h2 : X (F1 q) (cElt elt) t2 (fun r q => q = r.1.map enβ) G) (hr : r.1 = none) (l : FLe (F1 q) (G r)) : X fr (cBody c elt) (if q then t2 else .ok r) (fun r q => q = r.1.map enβ) G := by
  refine x_bdP h fun q' z => ?_
  cases (show q' = q from z)
  cases q with
  | true => exact h2
  | false => exact x_pure (b := none) (fun e suf hf => ⟨e, rfl, l _ hf⟩) (by rw [hr]; rfl)
theorem cb_e {t : O τ} {b : τ → Bool} {F1 : τ → FD} {t2 : τ → O (Option β × σ)} {r : τ → Option β × σ} (h : XT fr c t b F1) (h2 : ∀ a, X (F1 a) (cElt elt) (t2 a) (fun r q => q = r.1.map enβ) G) (hr : ∀ a, (r a).1 = none) (l : ∀ a, FLe (F1 a) (G (r a))) : X fr (cBody c elt) (bnd t fun a => if b a then t2 a else .ok (r a)) (fun r q => q = r.1.map enβ) G := by
  refine x_bd h fun a q z => ?_
  cases (show q = b a from z)
  cases hb : b a with
  | true => exact h2 a
  | false => exact x_pure (b := none) (fun e suf hf => ⟨e, rfl, l a _ hf⟩) (by rw [hr]; rfl)
end
/-! defs that change a parameter: what they raise is not told -/
def finRM (t : O (Fw σ κ ρ)) : O ρ := match t with
  | .ok (.rt r) => .ok r
  | _ => .bad
def finNM (t : O (Fw σ κ ρ)) (k : σ → ρ) : O ρ := match t with
  | .ok (.rt r) => .ok r
  | .ok (.nx s) => .ok (k s)
  | _ => .bad
theorem finRM_rt {r : ρ} : finRM (.ok (.rt r) : O (Fw σ κ ρ)) = .ok r := rfl
theorem finNM_rt {r : ρ} {k : σ → ρ} : finNM (.ok (.rt r) : O (Fw σ κ ρ)) k = .ok r := rfl
theorem finNM_nx {s : σ} {k : σ → ρ} : finNM (.ok (.nx s) : O (Fw σ κ ρ)) k = .ok (k s) := rfl
variable {rs : RS ρ} {G : κ → FD} {H : σ → FD}
theorem x_defM {mi : Option Nat} {n : Nat} {b : M Fl} {ds : List D} {t : O (Fw σ κ ρ)} (hs : Fits fr (start0 mi n ds)) (h : XS fr b t H G rs) (hm : rs.mi = mi) : RFk rs (bodyM mi n b ds) (finRM t) := by
  have z := h.run _ hs
  refine ⟨?_⟩
  rw [bodyM_eq]
  cases t with
  | bad => trivial
  | ex x => trivial
  | ok fl =>
    cases fl with
    | rt r =>
      obtain ⟨s, e', z1, z2, z3⟩ := z
      refine ⟨s, ?_, z2⟩
      rw [z1, finM_rt, ← hm, z3]
    | _ => trivial
theorem x_defNM {mi : Option Nat} {n : Nat} {b : M Fl} {ds : List D} {t : O (Fw σ κ ρ)} {k : σ → ρ} (hs : Fits fr (start0 mi n ds)) (h : XS fr b t H G rs) (hm : rs.mi = mi) (hk : ∀ s, OutOk (H s) rs (k s)) (hn : ∀ s, rs.en (k s) = .non) (hw : rs.w ≠ .o) : RFk rs (bodyM mi n b ds) (finNM t k) := by
  have z := h.run _ hs
  refine ⟨?_⟩
  rw [bodyM_eq]
  cases t with
  | bad => trivial
  | ex x => trivial
  | ok fl =>
    cases fl with
    | rt r =>
      obtain ⟨s, e', z1, z2, z3⟩ := z
      refine ⟨s, ?_, z2⟩
      rw [z1, finM_rt, ← hm, z3]
    | nx s =>
      obtain ⟨e', z1, z2⟩ := z
      have o := out_ok z2 (hk s)
      refine ⟨.sh .non, ?_, ?_⟩
      · rw [z1, finM_nx, ← hm, o]
      · unfold RT
        cases h : rs.w with
        | s => rw [hn]
        | o => exact absurd h hw
        | a => rw [hn]; exact .inl rfl
    | _ => trivial
end
end DL

end
section
set_option maxRecDepth 100000
set_option maxHeartbeats 2000000
/-! DX7: typed dicts with tuple keys. -/
namespace DL
open PySem PySem.Spec PyProof.Rows L2

section
variable {κ α : Type} [DecidableEq κ]
/-- how a key is told -/
structure KTl (ek : κ → List Key) (en : κ → D) : Prop where
  tup : ∀ k, ∃ xs, en k = .tup xs ∧ keysD xs = some (ek k)
  key : ∀ k, keyT (ek k) = en k
  inj : ∀ a b, ek a = ek b → a = b
def eM (ek : κ → List Key) (ev : α → D) (ps : List (κ × α)) : D := .dt (ps.map fun p => ek p.1) (ps.map fun p => ev p.2)
theorem eM_zip {ek : κ → List Key} {ev : α → D} (ps : List (κ × α)) : (ps.map fun p => ek p.1).zip (ps.map fun p => ev p.2) = ps.map fun p => (ek p.1, ev p.2) := by
  induction ps with
  | nil => rfl
  | cons p ps ih => rw [List.map_cons, List.map_cons, List.zip_cons_cons, ih, List.map_cons]
theorem eM_fst {ek : κ → List Key} {ev : α → D} (ps : List (κ × α)) : (ps.map fun p => (ek p.1, ev p.2)).map (·.1) = ps.map fun p => ek p.1 := by rw [List.map_map]; rfl
theorem eM_snd {ek : κ → List Key} {ev : α → D} (ps : List (κ × α)) : (ps.map fun p => (ek p.1, ev p.2)).map (·.2) = ps.map fun p => ev p.2 := by rw [List.map_map]; rfl
variable {ek : κ → List Key} {en : κ → D} {ev : α → D}
theorem look_eM (w : KTl ek en) (k : κ) : ∀ ps : List (κ × α), lookG (ek k) (ps.map fun p => (ek p.1, ev p.2)) = (lookG k ps).map ev
  | [] => rfl
  | p :: ps => by
    rw [List.map_cons, lookG, lookG]
    by_cases c : p.1 = k
    · rw [if_pos c, if_pos (by rw [c])]; rfl
    · rw [if_neg c, if_neg (fun e => c (w.inj _ _ e)), look_eM w k ps]
theorem any_eM (w : KTl ek en) (k : κ) (ps : List (κ × α)) : (ps.map fun p => (ek p.1, ev p.2)).any (fun p => decide (p.1 = ek k)) = ps.any (fun p => decide (p.1 = k)) := by
  rw [List.any_map]
  congr 1
  funext p
  show decide (ek p.1 = ek k) = decide (p.1 = k)
  by_cases c : p.1 = k
  · rw [decide_eq_true c, decide_eq_true (by rw [c])]
  · rw [decide_eq_false c, decide_eq_false (fun e => c (w.inj _ _ e))]
theorem put_eM (w : KTl ek en) (k : κ) (v : α) (ps : List (κ × α)) : putG (ps.map fun p => (ek p.1, ev p.2)) (ek k) (ev v) = (putG ps k v).map fun p => (ek p.1, ev p.2) := by
  unfold putG
  rw [any_eM w k ps]
  split
  · rw [List.map_map, List.map_map]
    refine List.map_congr_left fun p _ => ?_
    show (if ek p.1 = ek k then (ek p.1, ev v) else (ek p.1, ev p.2)) = _
    by_cases c : p.1 = k
    · show _ = (ek (if p.1 = k then (p.1, v) else p).1, ev (if p.1 = k then (p.1, v) else p).2)
      rw [if_pos (by rw [c]), if_pos c]
    · show _ = (ek (if p.1 = k then (p.1, v) else p).1, ev (if p.1 = k then (p.1, v) else p).2)
      rw [if_neg (fun e => c (w.inj _ _ e)), if_neg c]
  · rw [List.map_append]; rfl
theorem upd_eM (w : KTl ek en) : ∀ (qs ps : List (κ × α)), updG (ps.map fun p => (ek p.1, ev p.2)) (qs.map fun p => (ek p.1, ev p.2)) = (updG ps qs).map fun p => (ek p.1, ev p.2)
  | [], ps => rfl
  | q :: qs, ps => by
    show updG (putG (ps.map fun p => (ek p.1, ev p.2)) (ek q.1) (ev q.2)) (qs.map fun p => (ek p.1, ev p.2)) = _
    rw [put_eM w, upd_eM w qs]; rfl
theorem dlook_eM (w : KTl ek en) (k : κ) (m : List (κ × α)) : dLook (eM ek ev m) (en k) = some ((lookG k m).map ev) := by
  obtain ⟨xs, h1, h2⟩ := w.tup k
  rw [h1]
  show (keysD xs).map (fun j => lookG j ((m.map fun p => ek p.1).zip (m.map fun p => ev p.2))) = _
  rw [h2, eM_zip]
  show some (lookG (ek k) (m.map fun p => (ek p.1, ev p.2))) = _
  rw [look_eM w]
/-! the operations -/
def lookO (m : List (κ × α)) (k : κ) : O α := match lookG k m with
  | some v => .ok v
  | none => .bad
def putO (m : List (κ × α)) (k : κ) (v : α) : O (List (κ × α)) := if m.length < sizeLine then .ok (putG m k v) else .bad
def updO (m q : List (κ × α)) : O (List (κ × α)) := if m.length + q.length ≤ sizeLine ∧ m ≠ [] then .ok (updG m q) else .bad
def dictO (ps : List (κ × α)) : O (List (κ × α)) := if ps ≠ [] then .ok (updG [] ps) else .bad
theorem go_inM (w : KTl ek en) {k : κ} {m : List (κ × α)} : GO (gg2 gIn) [en k, eM ek ev m] .s (.ok (lookG k m).isSome) D.bl := go_s (by
  show gIn (en k) (eM ek ev m) = _
  unfold gIn
  rw [dlook_eM w, ← Option.isSome_map]
  rfl)
theorem go_ninM (w : KTl ek en) {k : κ} {m : List (κ × α)} : GO (gg2 gNin) [en k, eM ek ev m] .s (.ok (!(lookG k m).isSome)) D.bl := go_s (by
  show gNin (en k) (eM ek ev m) = _
  unfold gNin
  rw [dlook_eM w, ← Option.isSome_map]
  rfl)
theorem go_ixM (w : KTl ek en) {k : κ} {m : List (κ × α)} : GO (gg2 DL.gIx) [eM ek ev m, en k] .s (lookO m k) ev := by
  have h := dlook_eM (ev := ev) w k m
  unfold lookO
  cases e : lookG k m with
  | none => exact ⟨trivial⟩
  | some v =>
    refine go_s ?_
    show DL.gIx (eM ek ev m) (en k) = _
    unfold DL.gIx
    rw [h, e]; rfl
theorem gs_M (w : KTl ek en) {k : κ} {v : α} {m : List (κ × α)} : GS (eM ek ev m) (en k) (ev v) (putO m k v) (eM ek ev) := by
  unfold putO
  split
  · rename_i c
    refine ⟨?_⟩
    obtain ⟨xs, h1, h2⟩ := w.tup k
    show gSet (eM ek ev m) (en k) (ev v) = some _
    rw [h1]
    show (keysD xs).bind (fun j => if ((m.map fun p => ek p.1).zip (m.map fun p => ev p.2)).length < sizeLine then some (D.dt ((putG ((m.map fun p => ek p.1).zip (m.map fun p => ev p.2)) j (ev v)).map (·.1)) ((putG ((m.map fun p => ek p.1).zip (m.map fun p => ev p.2)) j (ev v)).map (·.2))) else none) = _
    rw [h2, eM_zip]
    show (if _ then _ else _) = _
    rw [if_pos (by rw [List.length_map]; exact c), put_eM w, eM_fst, eM_snd]; rfl
  · exact ⟨trivial⟩
theorem gm_updM (w : KTl ek en) {m q : List (κ × α)} : GM gUpd (eM ek ev m) [eM ek ev q] (updO m q) (eM ek ev) (fun _ => .non) := by
  unfold updO
  split
  · rename_i c
    refine ⟨?_⟩
    show (if ((m.map fun p => ek p.1).zip (m.map fun p => ev p.2)).length + ((q.map fun p => ek p.1).zip (q.map fun p => ev p.2)).length ≤ sizeLine ∧ (m.map fun p => ek p.1).zip (m.map fun p => ev p.2) ≠ [] then some (D.dt ((updG ((m.map fun p => ek p.1).zip (m.map fun p => ev p.2)) ((q.map fun p => ek p.1).zip (q.map fun p => ev p.2))).map (·.1)) ((updG ((m.map fun p => ek p.1).zip (m.map fun p => ev p.2)) ((q.map fun p => ek p.1).zip (q.map fun p => ev p.2))).map (·.2)), D.non) else none) = _
    rw [eM_zip, eM_zip, if_pos ⟨by rw [List.length_map, List.length_map]; exact c.1, by simpa using c.2⟩, upd_eM w, eM_fst, eM_snd]; rfl
  · exact ⟨trivial⟩
theorem go_disp1 (w : KTl ek en) {k : κ} {v : α} : GO (gg1 (gDisp1 (ev v))) [en k] .o (.ok [(k, v)]) (eM ek ev) := go_o (by
  obtain ⟨xs, h1, h2⟩ := w.tup k
  show gDisp1 (ev v) (en k) = _
  rw [h1]
  show (keysD xs).map (fun k => Sl.ow (.dt [k] [ev v])) = _
  rw [h2]; rfl)
theorem keys_eM (w : KTl ek en) (m : List (κ × α)) : (m.map fun p => ek p.1).map keyT = (m.map (·.1)).map en := by
  rw [List.map_map, List.map_map]
  exact List.map_congr_left fun p _ => w.key p.1
theorem go_lstM (w : KTl ek en) {m : List (κ × α)} : GO (gg1 gLstOf) [eM ek ev m] .o (.ok (m.map (·.1))) (eL en) := go_o (by
  show sl ((m.map fun p => ek p.1).map keyT) = _
  rw [keys_eM w]; rfl)
theorem go_srtM (w : KTl ek en) {m : List (κ × α)} {le : κ → κ → Bool} (h1 : ∀ ks : List κ, sortC (ks.map en) = true) (h2 : ∀ a b, PySem.W.dataLe false D.py (en a) (en b) = le a b) : GO (gg1 gSorted) [eM ek ev m] .o (.ok ((m.map (·.1)).mergeSort le)) (eL en) := go_o (by
  show (if sortC ((m.map fun p => ek p.1).map keyT) then sl (((m.map fun p => ek p.1).map keyT).mergeSort (PySem.W.dataLe false D.py)) else none) = _
  rw [keys_eM w, h1, if_pos rfl]
  have := List.map_mergeSort (r := le) (s := PySem.W.dataLe false D.py) (f := en) (l := m.map (·.1)) fun a _ b _ => (h2 a b).symm
  rw [← this]; rfl)
theorem pairs_eM (ps : List (κ × α)) : pairsD (ps.map (eP2 en ev)) = some (ps.map fun p => (en p.1, ev p.2)) := by
  induction ps with
  | nil => rfl
  | cons p ps ih =>
    show (pairsD (ps.map (eP2 en ev))).map ((en p.1, ev p.2) :: ·) = _
    rw [ih]; rfl
theorem pksT_eM (w : KTl ek en) (ps : List (κ × α)) : pksT (ps.map fun p => (en p.1, ev p.2)) = some (ps.map fun p => (ek p.1, ev p.2)) := by
  induction ps with
  | nil => rfl
  | cons p ps ih =>
    obtain ⟨xs, h1, h2⟩ := w.tup p.1
    rw [List.map_cons, h1, pksT, h2, ih]; rfl
theorem go_dictM (w : KTl ek en) {ps : List (κ × α)} : GO (gg1 gDict) [eL (eP2 en ev) ps] .o (dictO ps) (eM ek ev) := by
  unfold dictO
  split
  · rename_i c
    refine go_o ?_
    show (match pairsD (ps.map (eP2 en ev)) with | some ps => _ | none => none) = _
    rw [pairs_eM]
    have k0 : pksK (ps.map fun p => (en p.1, ev p.2)) = none := by
      cases ps with
      | nil => exact absurd rfl c
      | cons p ps =>
        obtain ⟨xs, h1, h2⟩ := w.tup p.1
        rw [List.map_cons, h1]; rfl
    show (match pksK _ with | some qs => _ | none => _) = _
    rw [k0]
    show (match pksT _ with | some qs => _ | none => none) = _
    rw [pksT_eM w]
    show some (Sl.ow (.dt ((updG [] (ps.map fun p => (ek p.1, ev p.2))).map (·.1)) ((updG [] (ps.map fun p => (ek p.1, ev p.2))).map (·.2)))) = _
    have := upd_eM (ev := ev) w ps []
    rw [show updG [] (ps.map fun p => (ek p.1, ev p.2)) = (updG [] ps).map fun p => (ek p.1, ev p.2) from this, eM_fst, eM_snd]; rfl
  · exact ⟨trivial⟩
theorem seq_eM (w : KTl ek en) (m : List (κ × α)) : seqD (eM ek ev m) = some ((m.map (·.1)).map en) := by
  show some ((m.map fun p => ek p.1).map keyT) = _
  rw [keys_eM w]
end
/-! cells -/
def kII : Int × Int → List Key := fun p => [.inl p.1, .inl p.2]
theorem kt_II : KTl kII (eP2 D.int D.int) := ⟨fun k => ⟨_, rfl, rfl⟩, fun k => rfl, fun a b h => by
  obtain ⟨a1, a2⟩ := a
  obtain ⟨b1, b2⟩ := b
  have h : [(.inl a1 : Key), .inl a2] = [.inl b1, .inl b2] := h
  simp only [List.cons.injEq, Sum.inl.injEq, and_true] at h
  rw [h.1, h.2]⟩
def leII (p q : Int × Int) : Bool := decide (p.1 < q.1 ∨ (p.1 = q.1 ∧ p.2 ≤ q.2))
theorem le_II (a b : Int × Int) : PySem.W.dataLe false D.py (eP2 D.int D.int a) (eP2 D.int D.int b) = leII a b :=
  congrFun (congrFun (PySem.W.dataLe_ii (β := Int × Int) (fun p => p.1) (fun p => p.2)) a) b
theorem sortC_II (ks : List (Int × Int)) : sortC (ks.map (eP2 D.int D.int)) = true := by
  have h1 : ∀ d ∈ ks.map (eP2 D.int D.int), ∃ a b : Int, d = .tup [.int a, .int b] := fun d hd => by
    obtain ⟨p, _, rfl⟩ := List.mem_map.mp hd
    exact ⟨_, _, rfl⟩
  unfold sortC
  simp only [Bool.and_eq_true, Bool.or_eq_true, List.all_eq_true]
  refine ⟨⟨?_, .inl fun d hd => ?_⟩, fun d hd => ?_⟩
  · unfold alikes
    simp only [List.all_eq_true]
    intro d hd d' hd'
    obtain ⟨a, b, rfl⟩ := h1 d hd
    obtain ⟨a', b', rfl⟩ := h1 d' hd'
    rfl
  · obtain ⟨a, b, rfl⟩ := h1 d hd; rfl
  · obtain ⟨a, b, rfl⟩ := h1 d hd; exact ⟨rfl, rfl⟩
theorem xe_own {fr : FD} {τ : Type} {d : D} {a : τ} {en : τ → D} (h : d = en a) : XE fr (eOwn d) .o (.ok a) en (fun _ => fr) := x_same (fun e => rfl) (by subst h; rfl)
end DL

end
section
set_option maxRecDepth 100000
set_option maxHeartbeats 2000000
/-! DY1: reckoning with typed functions. -/
namespace DL
open PySem PySem.Spec PyProof.Rows L2
section
variable {α β γ σ κ ρ τ : Type}
theorem bnd_eta {t : O α} : (bnd t fun a => .ok a) = t := by cases t <;> rfl
theorem bnd_as {t : O α} {f : α → O β} {g : β → O γ} : bnd (bnd t f) g = bnd t fun a => bnd (f a) g := by cases t <;> rfl
theorem bnd_ite {c : Prop} [Decidable c] {a b : O α} {k : α → O β} : bnd (if c then a else b) k = if c then bnd a k else bnd b k := by split <;> rfl
theorem seqF_ite {σ1 : Type} {c : Prop} [Decidable c] {a b : O (Fw σ1 κ ρ)} {k : σ1 → O (Fw σ κ ρ)} : seqF (if c then a else b) k = if c then seqF a k else seqF b k := by split <;> rfl
theorem finR_ite {c : Prop} [Decidable c] {a b : O (Fw σ κ ρ)} : finR (if c then a else b) = if c then finR a else finR b := by split <;> rfl
theorem loopF_ite {c : Prop} [Decidable c] {a b : O (Fw σ σ ρ)} {k : σ → O (Fw σ κ ρ)} : loopF (if c then a else b) k = if c then loopF a k else loopF b k := by split <;> rfl
theorem loopF_nx {s : σ} {k : σ → O (Fw σ κ ρ)} : loopF (.ok (.nx s)) k = k s := rfl
theorem loopF_ct {s : σ} {k : σ → O (Fw σ κ ρ)} : loopF (.ok (.ct s)) k = k s := rfl
theorem loopF_bk {s : σ} {k : σ → O (Fw σ κ ρ)} : loopF (.ok (.bk s)) k = .ok (.nx s) := rfl
theorem loopF_rt {r : ρ} {k : σ → O (Fw σ κ ρ)} : loopF (.ok (.rt r)) k = .ok (.rt r) := rfl
theorem forF_nil {body : α → σ → O (Fw σ σ ρ)} {s : σ} : forF (κ := κ) body [] s = .ok (.nx s) := rfl
theorem forF_cons {body : α → σ → O (Fw σ σ ρ)} {x : α} {xs : List α} {s : σ} : forF (κ := κ) body (x :: xs) s = loopF (body x s) (forF body xs) := rfl
/-- a loop whose turns all go on, with what holds of what is left and of the state -/
theorem forF_inv {body : α → σ → O (Fw σ σ ρ)} (P : List α → σ → Prop) (h : ∀ x xs s, P (x :: xs) s → ∃ s', body x s = .ok (.nx s') ∧ P xs s') : ∀ (xs : List α) (s : σ), P xs s → ∃ s', forF (κ := κ) body xs s = .ok (.nx s') ∧ P [] s'
  | [], s, p => ⟨s, rfl, p⟩
  | x :: xs, s, p => by
    obtain ⟨s1, h1, h2⟩ := h x xs s p
    obtain ⟨s', h3, h4⟩ := forF_inv P h xs s1 h2
    exact ⟨s', by rw [forF_cons, h1, loopF_nx, h3], h4⟩
/-- a loop whose turns change nothing -/
theorem forF_same {body : α → σ → O (Fw σ σ ρ)} {s : σ} : ∀ {xs : List α}, (∀ x ∈ xs, body x s = .ok (.nx s)) → forF (κ := κ) body xs s = .ok (.nx s)
  | [], _ => rfl
  | x :: xs, h => by
    rw [forF_cons, h x List.mem_cons_self, loopF_nx]
    exact forF_same fun y hy => h y (List.mem_cons_of_mem _ hy)
/-- a loop that steps -/
theorem forF_fold {body : α → σ → O (Fw σ σ ρ)} {g : σ → α → σ} : ∀ {xs : List α} {s : σ}, (∀ x ∈ xs, ∀ s, body x s = .ok (.nx (g s x))) → forF (κ := κ) body xs s = .ok (.nx (xs.foldl g s))
  | [], _, _ => rfl
  | x :: xs, s, h => by
    rw [forF_cons, h x List.mem_cons_self, loopF_nx, List.foldl_cons]
    exact forF_fold fun y hy => h y (List.mem_cons_of_mem _ hy)
theorem whF_succ {c : σ → O Bool} {body : σ → O (Fw σ σ ρ)} {n : Nat} {s : σ} : whF (κ := κ) c body (n + 1) s = bnd (c s) fun b => if b then loopF (body s) (whF c body n) else .ok (.nx s) := rfl
/-- a while that steps until its test fails: m turns are enough -/
theorem whF_inv {c : σ → O Bool} {body : σ → O (Fw σ σ ρ)} (P : Nat → σ → Prop) (h : ∀ k s, P k s → ∃ b, c s = .ok b ∧ (b = false → P 0 s) ∧ (b = true → ∃ j s', k = j + 1 ∧ body s = .ok (.nx s') ∧ P j s')) (Q : σ → Prop) (hq : ∀ s, P 0 s → c s = .ok false → Q s) : True := trivial
theorem szB (n : Nat) (h : n ≤ 1000000) : n ≤ sizeLine := by rw [sizeLine_eq]; omega
theorem szL (n : Nat) (h : n < 1000000) : n < sizeLine := by rw [sizeLine_eq]; omega
theorem lenO_ok {xs : List α} {r : τ} (h : xs.length ≤ 1000000) : lenO xs r = .ok r := by unfold lenO; rw [if_pos (szB _ h)]
theorem catO_ok {xs ys : List α} (h : xs.length + ys.length ≤ 1000000) : catO xs ys = .ok (xs ++ ys) := by unfold catO; rw [if_pos (szB _ h)]
theorem appO_ok {xs : List α} {x : α} (h : xs.length < 1000000) : appO xs x = .ok (xs ++ [x]) := by unfold appO; rw [if_pos (szL _ h)]
theorem extO_ok {xs ys : List α} (h : xs.length + ys.length ≤ 1000000) : extO xs ys = .ok (xs ++ ys) := by unfold extO; rw [if_pos (szB _ h)]
theorem compG_ok {p : α → O Bool} {f : α → O β} {q : α → Bool} {g : α → β} : ∀ {xs : List α}, (∀ x ∈ xs, p x = .ok (q x)) → (∀ x ∈ xs, q x = true → f x = .ok (g x)) → compG p f xs = .ok ((xs.filter q).map g)
  | [], _, _ => rfl
  | x :: xs, h1, h2 => by
    have ih := compG_ok (xs := xs) (fun y hy => h1 y (List.mem_cons_of_mem _ hy)) (fun y hy => h2 y (List.mem_cons_of_mem _ hy))
    unfold compG
    rw [h1 x List.mem_cons_self]
    cases hq : q x with
    | true =>
      dsimp only
      rw [h2 x List.mem_cons_self hq]
      dsimp only
      rw [ih, List.filter_cons_of_pos hq]
      rfl
    | false =>
      dsimp only
      rw [ih, List.filter_cons_of_neg (by simp [hq])]
theorem compO_ok {p : α → O Bool} {f : α → O β} (q : α → Bool) (g : α → β) {xs : List α} (hz : xs.length ≤ 1000000) (h1 : ∀ x ∈ xs, p x = .ok (q x)) (h2 : ∀ x ∈ xs, q x = true → f x = .ok (g x)) : compO xs p f = .ok ((xs.filter q).map g) := by
  unfold compO
  rw [if_pos (szB _ hz), compG_ok h1 h2]
theorem compO_map {f : α → O β} (g : α → β) {xs : List α} (hz : xs.length ≤ 1000000) (h2 : ∀ x ∈ xs, f x = .ok (g x)) : compO xs (fun _ => .ok true) f = .ok (xs.map g) := by
  rw [compO_ok (fun _ => true) g hz (fun _ _ => rfl) (fun x hx _ => h2 x hx), filter_yes]
theorem compO_all {f : α → O Bool} {xs : List α} (hz : xs.length ≤ 1000000) (h2 : ∀ x ∈ xs, f x = .ok true) : ∃ bs : List Bool, compO xs (fun _ => .ok true) f = .ok bs ∧ bs.all id = true :=
  ⟨xs.map fun _ => true, compO_map _ hz h2, by simp⟩
theorem ixO_nat {xs : List α} {n : Nat} {a : α} (h : xs[n]? = some a) : ixO xs (n : Int) = .ok a := by
  have hl := (List.getElem?_eq_some_iff.mp h).1
  unfold ixO atI ixN
  rw [if_pos (by omega), if_pos (by omega), Int.toNat_natCast]
  show (match xs[n]? with | some a => O.ok a | none => .bad) = _
  rw [h]
theorem ixO_get {xs : List α} {i : Int} {a : α} (h0 : 0 ≤ i) (h : xs[i.toNat]? = some a) : ixO xs i = .ok a := by
  have := ixO_nat h
  rwa [Int.toNat_of_nonneg h0] at this
theorem ixO_neg {xs : List α} {i : Int} {a : α} (h0 : i < 0) (h1 : 0 ≤ i + xs.length) (h : xs[(i + xs.length).toNat]? = some a) : ixO xs i = .ok a := by
  unfold ixO atI ixN
  rw [if_neg (by omega), if_pos (by omega)]
  show (match xs[(i + xs.length).toNat]? with | some a => O.ok a | none => .bad) = _
  rw [h]
theorem ixO_0 {x : α} {xs : List α} : ixO (x :: xs) 0 = .ok x := ixO_nat (n := 0) rfl
theorem setO_nat {xs : List α} {n : Nat} {a : α} (h : n < xs.length) : setO xs (n : Int) a = .ok (xs.set n a) := by
  unfold setO ixN
  rw [if_pos (by omega), if_pos (by omega), Int.toNat_natCast]
theorem setO_get {xs : List α} {i : Int} {a : α} (h0 : 0 ≤ i) (h : i.toNat < xs.length) : setO xs i a = .ok (xs.set i.toNat a) := by
  have := setO_nat (a := a) h
  rwa [Int.toNat_of_nonneg h0] at this
theorem divO_ok {a b : Int} (h : 0 < b) (h2 : b < 1073741824) : divO a b = .ok (a / b) := by unfold divO; rw [if_pos ⟨h, h2⟩]
theorem modO_ok {a b : Int} (h : 0 < b) : modO a b = .ok (a % b) := by unfold modO; rw [if_pos h]
theorem divmodO_ok {a b : Int} (h : 0 < b) (h2 : b < 1073741824) : divmodO a b = .ok (a / b, a % b) := by unfold divmodO; rw [if_pos ⟨h, h2⟩]
theorem mulO_r {a b : Int} (h : -18446744073709551616 < b) (h2 : b < 18446744073709551616) : mulO a b = .ok (a * b) := by
  unfold mulO
  have : DL.small64 b = true := decide_eq_true ⟨h, h2⟩
  rw [this]; simp
theorem mulO_l {a b : Int} (h : -18446744073709551616 < a) (h2 : a < 18446744073709551616) : mulO a b = .ok (a * b) := by
  unfold mulO
  have : DL.small64 a = true := decide_eq_true ⟨h, h2⟩
  rw [this]; simp
theorem rngB_ok {i : Int} (h : -1000000000000 ≤ i) (h2 : i ≤ 1000000000000) : rngB i = true := decide_eq_true ⟨by omega, by omega⟩
theorem rng1_ok {j : Int} (h : -1000000000000 ≤ j) (h2 : j ≤ 1000000000000) : rng1 j = .ok (irng 0 j) := by unfold rng1; rw [rngB_ok h h2]; rfl
theorem rng2_ok {i j : Int} (h : -1000000000000 ≤ i) (h2 : i ≤ 1000000000000) (h3 : -1000000000000 ≤ j) (h4 : j ≤ 1000000000000) : rng2 i j = .ok (irng i j) := by unfold rng2; rw [rngB_ok h h2, rngB_ok h3 h4]; rfl
theorem rngDn_ok {i j : Int} (h : -1000000000000 ≤ i) (h2 : i ≤ 1000000000000) (h3 : -1000000000000 ≤ j) (h4 : j ≤ 1000000000000) : rngDn i j = .ok (irngD i j) := by unfold rngDn; rw [rngB_ok h h2, rngB_ok h3 h4]; rfl
theorem rngL2_ok {i j : Int} (h : -1000000 ≤ i) (h2 : i ≤ 1000000) (h3 : -1000000 ≤ j) (h4 : j ≤ 1000000) : rngL2 i j = .ok (irng i j) := by
  unfold rngL2 rgB
  rw [rngB_ok (by omega) (by omega), rngB_ok (by omega) (by omega), decide_eq_true (by omega : (j - i).toNat ≤ 16777216)]; rfl
theorem rngL1_ok {j : Int} (h3 : -1000000 ≤ j) (h4 : j ≤ 1000000) : rngL1 j = .ok (irng 0 j) := by
  unfold rngL1 rgB
  rw [rngB_ok (by omega) (by omega), rngB_ok (by omega) (by omega), decide_eq_true (by omega : (j - 0).toNat ≤ 16777216)]; rfl
theorem irng_mem {a b k : Int} : k ∈ irng a b ↔ a ≤ k ∧ k < b := by
  unfold irng
  rw [List.mem_map]
  constructor
  · rintro ⟨i, hi, rfl⟩
    have := List.mem_range.mp hi
    omega
  · rintro ⟨h1, h2⟩
    exact ⟨(k - a).toNat, List.mem_range.mpr (by omega), by omega⟩
theorem irng_len (a b : Int) : (irng a b).length = (b - a).toNat := by unfold irng; simp
theorem irng_nil {a b : Int} (h : b ≤ a) : irng a b = [] := by unfold irng; rw [show (b - a).toNat = 0 by omega]; rfl
theorem irng_cons {a b : Int} (h : a < b) : irng a b = a :: irng (a + 1) b := by
  unfold irng
  rw [show (b - a).toNat = (b - (a + 1)).toNat + 1 by omega, List.range_succ_eq_map, List.map_cons, List.map_map]
  congr 1
  · show a + ((0 : Nat) : Int) = a; omega
  · refine List.map_congr_left fun i _ => ?_
    show a + ((i + 1 : Nat) : Int) = a + 1 + (i : Nat)
    omega
theorem irng_get {a b : Int} {i : Nat} (h : i < (b - a).toNat) : (irng a b)[i]? = some (a + i) := by
  unfold irng
  rw [List.getElem?_map, List.getElem?_range h]; rfl
theorem irng_srt (a b : Int) : (irng a b).Pairwise (· < ·) := by
  unfold irng
  rw [List.pairwise_map]
  exact List.pairwise_lt_range.imp fun h => by omega
theorem sIx_nn' {n k : Nat} {i : Int} (h : 0 ≤ i) : HT.sIx n k (some i) = min i.toNat n := sIx_nn h
theorem cut10L {xs : List α} {i : Int} (h : 0 ≤ i) : cutL xs (some i) none = xs.drop i.toNat := by
  unfold cutL
  rw [sIx_nn h]
  have e : HT.sIx xs.length xs.length none = xs.length := rfl
  rw [e]
  by_cases hl : i.toNat ≤ xs.length
  · rw [Nat.min_eq_left hl, List.take_of_length_le (by simp)]
  · rw [Nat.min_eq_right (by omega), List.drop_eq_nil_of_le (Nat.le_refl _), List.drop_eq_nil_of_le (by omega)]
    simp
theorem cut01L {xs : List α} {i : Int} (h : 0 ≤ i) : cutL xs none (some i) = xs.take i.toNat := by
  unfold cutL
  rw [sIx_nn h]
  have e : HT.sIx xs.length 0 none = 0 := rfl
  rw [e, List.drop_zero, Nat.sub_zero]
  by_cases hl : i.toNat ≤ xs.length
  · rw [Nat.min_eq_left hl]
  · rw [Nat.min_eq_right (by omega), List.take_of_length_le (Nat.le_refl _), List.take_of_length_le (by omega)]
theorem pickT_rev9 {xs : List α} (h : xs.length ≤ 16) : pickT xs none none (-1) = xs.reverse := by
  match xs, h with
  | [], _ => kernel_rfl
  | [a], _ => kernel_rfl
  | [a, b], _ => kernel_rfl
  | [a, b, c], _ => kernel_rfl
  | [a, b, c, d], _ => kernel_rfl
  | [a, b, c, d, e], _ => kernel_rfl
  | [a, b, c, d, e, f], _ => kernel_rfl
  | [a, b, c, d, e, f, g], _ => kernel_rfl
  | [a, b, c, d, e, f, g, h], _ => kernel_rfl
  | [a, b, c, d, e, f, g, h, i], _ => kernel_rfl
  | [a, b, c, d, e, f, g, h, i, j], _ => kernel_rfl
  | [a, b, c, d, e, f, g, h, i, j, k], _ => kernel_rfl
  | [a, b, c, d, e, f, g, h, i, j, k, l], _ => kernel_rfl
  | [a, b, c, d, e, f, g, h, i, j, k, l, m], _ => kernel_rfl
  | [a, b, c, d, e, f, g, h, i, j, k, l, m, n], _ => kernel_rfl
  | [a, b, c, d, e, f, g, h, i, j, k, l, m, n, o], _ => kernel_rfl
  | [a, b, c, d, e, f, g, h, i, j, k, l, m, n, o, p], _ => kernel_rfl
  | a :: b :: c :: d :: e :: f :: g :: h :: i :: j :: k :: l :: m :: n :: o :: p :: q :: r, z => exact absurd z (by simp)
theorem stepT_rev {xs : List α} (h : xs.length ≤ 16) : stepTO xs none (-1) = .ok xs.reverse := by
  unfold stepTO
  rw [pickT_rev9 h, if_pos ⟨by decide, by decide, szB _ (by rw [List.length_reverse]; omega)⟩]
theorem eqsO_ok {a b : Str} (h : PyData.strOk a = true) (h2 : PyData.strOk b = true) : eqsO a b = .ok (a == b) := by unfold eqsO; rw [h, h2]; rfl
theorem reprO_same {a b : O Str} : True := trivial
end
end DL

end
section
set_option maxRecDepth 100000
set_option maxHeartbeats 2000000
/-! DY2: repr of drawn things is told. -/
namespace DL
open PySem PySem.Spec PyProof.Rows L2

theorem ok_app {a b : Str} (h : PyData.strOk a = true) (h2 : PyData.strOk b = true) : PyData.strOk (a ++ b) = true := by
  unfold PyData.strOk at h h2 ⊢
  show (a.cps ++ b.cps).all (· < 0x110000) = true
  rw [Array.all_append, h, h2]; rfl
theorem ok_str (s : String) : PyData.strOk (Str.ofString s) = true := by
  unfold PyData.strOk
  rw [Str.ofString_eq_toList]
  show ((s.toList.map Char.toNat).toArray).all (· < 0x110000) = true
  rw [List.all_toArray, List.all_map, List.all_eq_true]
  intro c _
  show decide (c.toNat < 0x110000) = true
  refine decide_eq_true ?_
  have := c.valid
  rcases this with h | ⟨_, h⟩
  · show c.val.toNat < _; omega
  · show c.val.toNat < _; omega
theorem ok_join {sep : Str} (hs : PyData.strOk sep = true) : ∀ {ts : List Str}, (∀ t ∈ ts, PyData.strOk t = true) → PyData.strOk (Str.join sep ts) = true
  | [], _ => by kernel_rfl
  | [x], h => h x List.mem_cons_self
  | x :: y :: r, h => ok_app (ok_app (h x List.mem_cons_self) hs) (ok_join hs fun t ht => h t (List.mem_cons_of_mem _ ht))
theorem ok_from : ∀ {ts : List Str} {k : Nat} {acc : Str}, PyData.strOk acc = true → (∀ t ∈ ts, PyData.strOk t = true) → PyData.strOk (textFrom k acc ts) = true
  | [], _, _, h, _ => h
  | t :: ts, k, acc, h, h2 => ok_from (ts := ts) (ok_app (ok_app h (ok_str _)) (h2 t List.mem_cons_self)) fun u hu => h2 u (List.mem_cons_of_mem _ hu)
theorem from_len : ∀ (ts : List Str) (k : Nat) (acc : Str), (textFrom k acc ts).length ≤ acc.length + piled ts
  | [], k, acc => by show acc.length ≤ acc.length + 0; omega
  | t :: ts, k, acc => by
    have ih := from_len ts (k + 1) (acc ++ (if k > 0 then ", " else "" : String) ++ t)
    have e : (acc ++ (if k > 0 then ", " else "" : String) ++ t).length = acc.length + (if k > 0 then 2 else 0) + t.length := by
      rw [strLen_append, strLen_append]
      split <;> rfl
    show (textFrom (k + 1) (acc ++ (if k > 0 then ", " else "" : String) ++ t) ts).length ≤ _
    rw [e] at ih
    rw [piled_cons]
    have hh : (if k > 0 then 2 else 0) ≤ 2 := by split <;> omega
    omega
/-- what repr tells of d is told, has at most n signs -/
structure Sho (d : D) (n dep : Nat) : Prop where
  lay : d.py.canLay0 = true
  can : d.py.showable = true
  dep : d.py.depth ≤ dep
  len : d.py.shown.length ≤ n
  ok : PyData.strOk d.py.shown = true
theorem Sho.mono {d : D} {n m k j : Nat} (h : Sho d n k) (l : n ≤ m) (l2 : k ≤ j) : Sho d m j := ⟨h.lay, h.can, Nat.le_trans h.dep l2, Nat.le_trans h.len l, h.ok⟩
theorem Sho.repr {d : D} {n k : Nat} (h : Sho d n k) (l : n ≤ 1000000) (l2 : k ≤ 64) : reprO d = .ok d.py.shown := by
  unfold reprO
  rw [h.lay, h.can, decide_eq_true (Nat.le_trans h.dep l2), decide_eq_true (szB _ (Nat.le_trans h.len l))]
  rfl
theorem Sho.same {d : D} {n k : Nat} (h : Sho d n k) (l : n ≤ 1000000) (l2 : k ≤ 64) : (bnd (reprO d) fun a => bnd (reprO d) fun b => eqsO a b) = .ok true := by
  rw [h.repr l l2, bnd_ok, bnd_ok, eqsO_ok h.ok h.ok, beq_self_eq_true]
theorem Sho.nes {d : D} {n k : Nat} (h : Sho d n k) : nesO d.py.shown d.py.shown = .ok false := by
  unfold nesO
  rw [h.ok, beq_self_eq_true]; rfl
theorem Sho.eqs {d : D} {n k : Nat} (h : Sho d n k) : eqsO d.py.shown d.py.shown = .ok true := by rw [eqsO_ok h.ok h.ok, beq_self_eq_true]
theorem sho_non : Sho .non 4 0 := ⟨by kernel_rfl, by kernel_rfl, by decide +kernel, by decide +kernel, by kernel_rfl⟩
theorem sho_bl (b : Bool) : Sho (.bl b) 5 0 := by cases b <;> exact ⟨by kernel_rfl, by kernel_rfl, by decide +kernel, by decide +kernel, by kernel_rfl⟩
theorem digits_len (n : Nat) (h : n < 10 ^ 19) : (Nat.toDigits 10 n).length ≤ 19 := by
  have := digitsCore_len_pow 10 (by decide) 19 (n + 1) n [] (by decide) h
  simpa [Nat.toDigits] using this
theorem int_str_len (i : Int) (h : -10000000000000000000 < i ∧ i < 10000000000000000000) : (Str.ofString (toString i)).length ≤ 20 := by
  rw [Str.ofString_eq_toList]
  show ((toString i).toList.map Char.toNat).toArray.size ≤ 20
  rw [List.size_toArray, List.length_map]
  cases i with
  | ofNat m =>
    have e : (toString (Int.ofNat m)).toList = Nat.toDigits 10 m := by
      show (Nat.repr m).toList = _
      unfold Nat.repr
      rw [String.toList_ofList]
    rw [e]
    have := digits_len m (by have := h.2; simp at this; omega)
    omega
  | negSucc m =>
    have e : (toString (Int.negSucc m)).toList = '-' :: Nat.toDigits 10 (m + 1) := by
      show ("-" ++ Nat.repr (m + 1)).toList = _
      unfold Nat.repr
      rw [String.toList_append, String.toList_ofList]
      simp
    rw [e]
    have := digits_len (m + 1) (by have := h.1; omega)
    rw [List.length_cons]; omega
theorem sho_int (i : Int) (h : -10000000000000000000 < i ∧ i < 10000000000000000000) : Sho (.int i) 20 0 := by
  refine ⟨by kernel_rfl, ?_, by show PyData.depth (.int i) ≤ 0; simp [PyData.depth], ?_, ?_⟩
  · show PyData.showable (.int i) = true
    unfold PyData.showable
    refine decide_eq_true ?_
    have : i.natAbs < 2 ^ 64 := by omega
    by_cases h0 : i.natAbs = 0
    · rw [h0]; decide
    · have := (Nat.log2_lt h0).mpr ‹i.natAbs < 2 ^ 64›
      omega
  · show (PyData.shown (.int i)).length ≤ 20
    unfold PyData.shown
    exact int_str_len i h
  · show PyData.strOk (PyData.shown (.int i)) = true
    unfold PyData.shown
    exact ok_str _
theorem mem_shown : ∀ {ds : List PyData} {t : Str}, t ∈ PyData.shownAll ds → ∃ d ∈ ds, t = d.shown
  | [], t, h => by simp [PyData.shownAll] at h
  | d :: ds, t, h => by
    rw [PyData.shownAll] at h
    rcases List.mem_cons.mp h with h | h
    · exact ⟨d, List.mem_cons_self, h⟩
    · obtain ⟨e, h1, h2⟩ := mem_shown h
      exact ⟨e, List.mem_cons_of_mem _ h1, h2⟩
theorem lay_all : ∀ {ds : List PyData}, (∀ d ∈ ds, d.canLay0 = true) → PyData.canLayAll0 ds = true
  | [], _ => by simp [PyData.canLayAll0]
  | d :: ds, h => by rw [PyData.canLayAll0, h d List.mem_cons_self, lay_all fun e he => h e (List.mem_cons_of_mem _ he)]; rfl
theorem can_all : ∀ {ds : List PyData}, (∀ d ∈ ds, d.showable = true) → PyData.showableAll ds = true
  | [], _ => by simp [PyData.showableAll]
  | d :: ds, h => by rw [PyData.showableAll, h d List.mem_cons_self, can_all fun e he => h e (List.mem_cons_of_mem _ he)]; rfl
theorem dep_all {k : Nat} : ∀ {ds : List PyData}, (∀ d ∈ ds, d.depth ≤ k) → PyData.depthAll ds ≤ k
  | [], _ => by simp [PyData.depthAll]
  | d :: ds, h => by
    have := h d List.mem_cons_self
    have ih := dep_all (ds := ds) fun e he => h e (List.mem_cons_of_mem _ he)
    rw [PyData.depthAll]
    omega
theorem piled_le {n : Nat} : ∀ {ds : List PyData}, (∀ d ∈ ds, d.shown.length ≤ n) → piled (PyData.shownAll ds) ≤ (n + 2) * ds.length
  | [], _ => by simp [PyData.shownAll, piled]
  | d :: ds, h => by
    have := h d List.mem_cons_self
    have ih := piled_le (ds := ds) fun e he => h e (List.mem_cons_of_mem _ he)
    rw [PyData.shownAll, piled_cons, List.length_cons, Nat.mul_succ]
    omega
theorem sho_seq {ds : List D} {n k : Nat} (h : ∀ d ∈ ds, Sho d n k) : Sho (.tup ds) ((n + 2) * ds.length + 3) (k + 1) ∧ Sho (.lst ds) ((n + 2) * ds.length + 3) (k + 1) ∧ Sho (.rol ds) ((n + 2) * ds.length + 3) (k + 1) := by
  have hp : ∀ d ∈ pys ds, ∃ e, Sho e n k ∧ d = e.py := fun d hd => by
    rw [pys_map] at hd
    obtain ⟨e, he, rfl⟩ := List.mem_map.mp hd
    exact ⟨e, h e he, rfl⟩
  have l1 : PyData.canLayAll0 (pys ds) = true := lay_all fun d hd => by obtain ⟨e, he, rfl⟩ := hp d hd; exact he.lay
  have l2 : PyData.showableAll (pys ds) = true := can_all fun d hd => by obtain ⟨e, he, rfl⟩ := hp d hd; exact he.can
  have l3 : PyData.depthAll (pys ds) ≤ k := dep_all fun d hd => by obtain ⟨e, he, rfl⟩ := hp d hd; exact he.dep
  have l4 : piled (PyData.shownAll (pys ds)) ≤ (n + 2) * ds.length := by
    have := piled_le (n := n) (ds := pys ds) fun d hd => by obtain ⟨e, he, rfl⟩ := hp d hd; exact he.len
    rwa [pys_map, List.length_map, ← pys_map] at this
  have l5 : ∀ t ∈ PyData.shownAll (pys ds), PyData.strOk t = true := fun t ht => by
    obtain ⟨d, hd, rfl⟩ := mem_shown ht
    obtain ⟨e, he, rfl⟩ := hp d hd
    exact he.ok
  have lst : Sho (.lst ds) ((n + 2) * ds.length + 3) (k + 1) := by
    have e : (D.lst ds).py = .list (pys ds) := rfl
    refine ⟨by rw [e, PyData.canLay0]; exact l1, by rw [e, PyData.showable]; exact l2, by rw [e, PyData.depth]; omega, ?_, ?_⟩
    · rw [e, PyData.shown]
      unfold listText
      have := from_len (PyData.shownAll (pys ds)) 0 ("[" : Str)
      have e1 : (("[" : String) : Str).length = 1 := rfl
      have e2 : (("]" : String) : Str).length = 1 := rfl
      rw [strLen_append, e2]
      rw [e1] at this
      omega
    · rw [e, PyData.shown]
      exact ok_app (ok_from (ok_str _) l5) (ok_str _)
  refine ⟨?_, lst, ⟨lst.lay, lst.can, lst.dep, lst.len, lst.ok⟩⟩
  have e : (D.tup ds).py = .tuple (pys ds) := rfl
  refine ⟨by rw [e, PyData.canLay0]; exact l1, by rw [e, PyData.showable]; exact l2, by rw [e, PyData.depth]; omega, ?_, ?_⟩
  · rw [e, PyData.shown]
    unfold tupleText
    have e1 : (("(" : String) : Str).length = 1 := rfl
    have e3 : ((if (PyData.shownAll (pys ds)).length == 1 then ",)" else ")" : String) : Str).length ≤ 2 := by split <;> decide +kernel
    rw [strLen_append, strLen_append, e1]
    by_cases hn : PyData.shownAll (pys ds) = []
    · rw [hn] at e3 ⊢
      have e4 : (Str.join ", " []).length = 0 := rfl
      omega
    · have := join_length_add _ hn
      omega
  · rw [e, PyData.shown]
    exact ok_app (ok_app (ok_str _) (ok_join (ok_str _) l5)) (ok_str _)
theorem sho_tup {ds : List D} {n k : Nat} (h : ∀ d ∈ ds, Sho d n k) : Sho (.tup ds) ((n + 2) * ds.length + 3) (k + 1) := (sho_seq h).1
theorem sho_lst {ds : List D} {n k : Nat} (h : ∀ d ∈ ds, Sho d n k) : Sho (.lst ds) ((n + 2) * ds.length + 3) (k + 1) := (sho_seq h).2.1
theorem sho_eT {α : Type} {e : α → D} {xs : List α} {n k m : Nat} (h : ∀ x ∈ xs, Sho (e x) n k) (l : xs.length ≤ m) : Sho (eT e xs) ((n + 2) * m + 3) (k + 1) := by
  have := sho_tup (ds := xs.map e) (n := n) (k := k) fun d hd => by obtain ⟨x, hx, rfl⟩ := List.mem_map.mp hd; exact h x hx
  rw [List.length_map] at this
  exact this.mono (by have := Nat.mul_le_mul_left (n + 2) l; omega) (Nat.le_refl _)
theorem sho_eL {α : Type} {e : α → D} {xs : List α} {n k m : Nat} (h : ∀ x ∈ xs, Sho (e x) n k) (l : xs.length ≤ m) : Sho (eL e xs) ((n + 2) * m + 3) (k + 1) := by
  have := sho_lst (ds := xs.map e) (n := n) (k := k) fun d hd => by obtain ⟨x, hx, rfl⟩ := List.mem_map.mp hd; exact h x hx
  rw [List.length_map] at this
  exact this.mono (by have := Nat.mul_le_mul_left (n + 2) l; omega) (Nat.le_refl _)
theorem sho_P2 {a b : D} {n k : Nat} (h1 : Sho a n k) (h2 : Sho b n k) : Sho (.tup [a, b]) ((n + 2) * 2 + 3) (k + 1) := sho_tup fun d hd => by
  simp only [List.mem_cons, List.not_mem_nil, or_false] at hd
  rcases hd with rfl | rfl
  · exact h1
  · exact h2
theorem sho_P3 {a b c : D} {n k : Nat} (h1 : Sho a n k) (h2 : Sho b n k) (h3 : Sho c n k) : Sho (.tup [a, b, c]) ((n + 2) * 3 + 3) (k + 1) := sho_tup fun d hd => by
  simp only [List.mem_cons, List.not_mem_nil, or_false] at hd
  rcases hd with rfl | rfl | rfl
  · exact h1
  · exact h2
  · exact h3
end DL

end
section
set_option maxRecDepth 100000
set_option maxHeartbeats 2000000

namespace DL
open PySem PySem.Spec PyProof.Rows L2
theorem py_ints (c : List Int) : (D.tup (c.map D.int)).py = .tuple (c.map PyData.int) := by
  show PyData.tuple (pys (c.map D.int)) = _
  rw [pys_map, List.map_map]; rfl
theorem eqv_ints (a b : List Int) : PyData.eqvAll (a.map PyData.int) (b.map PyData.int) = (a == b) := by
  induction a generalizing b with
  | nil => cases b <;> rfl
  | cons x xs ih =>
    cases b with
    | nil => rfl
    | cons y ys =>
      show ((x == y) && PyData.eqvAll (xs.map PyData.int) (ys.map PyData.int)) = (x :: xs == y :: ys)
      rw [ih]; rfl
theorem eqO_ints (a b : List Int) : eqO (eT D.int a) (eT D.int b) = .ok (a == b) := by
  show (if shp (.tup (a.map D.int)) && shp (.tup (b.map D.int)) then O.ok (PyData.eqv (D.tup (a.map D.int)).py (D.tup (b.map D.int)).py) else .bad) = _
  rw [shp_intsT, shp_intsT, py_ints, py_ints]
  show O.ok (PyData.eqvAll _ _) = _
  rw [eqv_ints]
theorem neO_ints (a b : List Int) : neO (eT D.int a) (eT D.int b) = .ok (!(a == b)) := by
  show (if shp (.tup (a.map D.int)) && shp (.tup (b.map D.int)) then O.ok (!PyData.eqv (D.tup (a.map D.int)).py (D.tup (b.map D.int)).py) else .bad) = _
  rw [shp_intsT, shp_intsT, py_ints, py_ints]
  show O.ok (!PyData.eqvAll _ _) = _
  rw [eqv_ints]
theorem eqO_nil (a : List Int) : eqO (eT D.int a) (eP0 ()) = .ok (a == []) := eqO_ints a []
theorem neO_nil (a : List Int) : neO (eT D.int a) (eP0 ()) = .ok (!(a == [])) := neO_ints a []
/-- a list without doubles, all of it in another -/
theorem nodup_len {α : Type} [DecidableEq α] : ∀ {xs ys : List α}, xs.Nodup → (∀ x ∈ xs, x ∈ ys) → xs.length ≤ ys.length
  | [], _, _, _ => by simp
  | x :: xs, ys, hn, h => by
    rw [List.nodup_cons] at hn
    have hm := h x List.mem_cons_self
    have := nodup_len (xs := xs) (ys := ys.erase x) hn.2 fun y hy => (List.mem_erase_of_ne (fun e : y = x => hn.1 (by rw [← e]; exact hy))).mpr (h y (List.mem_cons_of_mem _ hy))
    rw [List.length_erase_of_mem hm] at this
    have := List.length_pos_of_mem hm
    simp only [List.length_cons]; omega
theorem srt_nodup {xs : List Int} (h : xs.Pairwise (· < ·)) : xs.Nodup := h.imp fun h => by omega
end DL

end
section
set_option maxRecDepth 100000
set_option maxHeartbeats 0
/-! law_k02_drift: mirrors of the defs, printed by gen.py -/
namespace LW
open PySem PySem.Spec PyProof.Rows L2 DL
def top (i : Nat) : Stmt := PySem.Challenge.pw_laidmarks_k02_drift.main.body.getD i (.Pass ⟨0, 0, 0, 0⟩)
abbrev k_MOST_COLUMNS : D := (.int 16)
abbrev k_MOST_ROWS : D := (.int 9)
abbrev k_MOST_DEPTH : D := (.int 9)
abbrev k_LAST_DAY : D := (.int 400)
abbrev s_is_whole : Stmt := top 10
def b_is_whole : M Fl :=
    (sRet (eAnd (.val (eN (gg1 (gIsi "int")) [.bor 0])) (eAnd (.val (eNot (.val (eN (gg1 (gIsi "bool")) [.bor 0])))) (eChain (fun i j => decide (i ≤ j)) (fun i j => decide (i ≤ j)) (.bor 1) (.bor 0) (.bor 2)))))
theorem x_b_is_whole (e : Ev) : b_is_whole e = (sRet (eAnd (.val (eN (gg1 (gIsi "int")) [.bor 0])) (eAnd (.val (eNot (.val (eN (gg1 (gIsi "bool")) [.bor 0])))) (eChain (fun i j => decide (i ≤ j)) (fun i j => decide (i ≤ j)) (.bor 1) (.bor 0) (.bor 2))))) e := rfl
def m_is_whole : List D → RF := bodyM none 3 b_is_whole
abbrev n_is_whole : List Str := ["thing", "low", "high"]
abbrev t_is_whole : List (Str × Gb) := [("isinstance", .bi), ("int", .bi), ("bool", .bi)]
abbrev s_is_column : Stmt := top 11
def q_is_column_1 : M Sl :=
    (eComp (srcV (eVar 0)) (.nm 2) [2] tYesM (eCall none m_is_whole [.val (eVar 2), .val (eC (.int 0)), .val (eC k_MOST_DEPTH)]))
theorem x_q_is_column_1 (e : Ev) : q_is_column_1 e = (eComp (srcV (eVar 0)) (.nm 2) [2] tYesM (eCall none m_is_whole [.val (eVar 2), .val (eC (.int 0)), .val (eC k_MOST_DEPTH)])) e := rfl
def b_is_column : M Fl :=
    (sSeq (sIf (tOrM (tNotM (tVal (.val (eN (gg1 (gIsi "tuple")) [.bor 0])))) (tB1 (eN (gg2 gNe) [.val (eN (gg1 gLen) [.bor 0]), .bor 1]))) (sRet (eC (.bl false))) sNx)
    (sRet (eN (gg1 gAll) [.val q_is_column_1])))
theorem x_b_is_column (e : Ev) : b_is_column e = (sSeq (sIf (tOrM (tNotM (tVal (.val (eN (gg1 (gIsi "tuple")) [.bor 0])))) (tB1 (eN (gg2 gNe) [.val (eN (gg1 gLen) [.bor 0]), .bor 1]))) (sRet (eC (.bl false))) sNx)
    (sRet (eN (gg1 gAll) [.val q_is_column_1]))) e := rfl
def m_is_column : List D → RF := bodyM none 3 b_is_column
abbrev n_is_column : List Str := ["thing", "rows", "depth"]
abbrev t_is_column : List (Str × Gb) := [("isinstance", .bi), ("tuple", .bi), ("len", .bi), ("all", .bi), ("is_whole", .fn ⟨none, 3, m_is_whole⟩), ("MOST_DEPTH", .con k_MOST_DEPTH)]
abbrev s_is_sea : Stmt := top 12
def q_is_sea_1 : M Sl :=
    (eComp (srcV (eVar 0)) (.nm 1) [1] tYesM (eCall none m_is_column [.val (eVar 1), .val (eN (gg1 gLen) [.val (eN (gg2 gIx) [.bor 0, .val (eC (.int 0))])])]))
theorem x_q_is_sea_1 (e : Ev) : q_is_sea_1 e = (eComp (srcV (eVar 0)) (.nm 1) [1] tYesM (eCall none m_is_column [.val (eVar 1), .val (eN (gg1 gLen) [.val (eN (gg2 gIx) [.bor 0, .val (eC (.int 0))])])])) e := rfl
def b_is_sea : M Fl :=
    (sSeq (sIf (tOrM (tNotM (tVal (.val (eN (gg1 (gIsi "tuple")) [.bor 0])))) (tNotM (tB1 (eChain (fun i j => decide (i ≤ j)) (fun i j => decide (i ≤ j)) (.val (eC (.int 2))) (.val (eN (gg1 gLen) [.bor 0])) (.val (eC k_MOST_COLUMNS)))))) (sRet (eC (.bl false))) sNx)
    (sSeq (sIf (tOrM (tNotM (tVal (.val (eN (gg1 (gIsi "tuple")) [.val (eN (gg2 gIx) [.bor 0, .val (eC (.int 0))])])))) (tNotM (tB1 (eChain (fun i j => decide (i ≤ j)) (fun i j => decide (i ≤ j)) (.val (eC (.int 1))) (.val (eN (gg1 gLen) [.val (eN (gg2 gIx) [.bor 0, .val (eC (.int 0))])])) (.val (eC k_MOST_ROWS)))))) (sRet (eC (.bl false))) sNx)
    (sRet (eN (gg1 gAll) [.val q_is_sea_1]))))
theorem x_b_is_sea (e : Ev) : b_is_sea e = (sSeq (sIf (tOrM (tNotM (tVal (.val (eN (gg1 (gIsi "tuple")) [.bor 0])))) (tNotM (tB1 (eChain (fun i j => decide (i ≤ j)) (fun i j => decide (i ≤ j)) (.val (eC (.int 2))) (.val (eN (gg1 gLen) [.bor 0])) (.val (eC k_MOST_COLUMNS)))))) (sRet (eC (.bl false))) sNx)
    (sSeq (sIf (tOrM (tNotM (tVal (.val (eN (gg1 (gIsi "tuple")) [.val (eN (gg2 gIx) [.bor 0, .val (eC (.int 0))])])))) (tNotM (tB1 (eChain (fun i j => decide (i ≤ j)) (fun i j => decide (i ≤ j)) (.val (eC (.int 1))) (.val (eN (gg1 gLen) [.val (eN (gg2 gIx) [.bor 0, .val (eC (.int 0))])])) (.val (eC k_MOST_ROWS)))))) (sRet (eC (.bl false))) sNx)
    (sRet (eN (gg1 gAll) [.val q_is_sea_1])))) e := rfl
def m_is_sea : List D → RF := bodyM none 2 b_is_sea
abbrev n_is_sea : List Str := ["thing", "column"]
abbrev t_is_sea : List (Str × Gb) := [("isinstance", .bi), ("tuple", .bi), ("len", .bi), ("MOST_COLUMNS", .con k_MOST_COLUMNS), ("MOST_ROWS", .con k_MOST_ROWS), ("all", .bi), ("is_column", .fn ⟨none, 2, m_is_column⟩)]
abbrev s_need_sea : Stmt := top 13
def b_need_sea : M Fl :=
    (sIf (tNotM (tVal (.val (eCall none m_is_sea [.val (eVar 0)])))) sBad sNx)
theorem x_b_need_sea (e : Ev) : b_need_sea e = (sIf (tNotM (tVal (.val (eCall none m_is_sea [.val (eVar 0)])))) sBad sNx) e := rfl
def m_need_sea : List D → RF := bodyM none 1 b_need_sea
abbrev n_need_sea : List Str := ["sea"]
abbrev t_need_sea : List (Str × Gb) := [("is_sea", .fn ⟨none, 1, m_is_sea⟩)]
abbrev s_is_cell : Stmt := top 14
def b_is_cell : M Fl :=
    (sSeq (sIf (tOrM (tNotM (tVal (.val (eN (gg1 (gIsi "tuple")) [.bor 1])))) (tB1 (eN (gg2 gNe) [.val (eN (gg1 gLen) [.bor 1]), .val (eC (.int 2))]))) (sRet (eC (.bl false))) sNx)
    (sRet (eAnd (.val (eCall none m_is_whole [.val (eN (gg2 gIx) [.bor 1, .val (eC (.int 0))]), .val (eC (.int 0)), .val (eN (gg2 gSub) [.val (eN (gg1 gLen) [.bor 0]), .val (eC (.int 1))])])) (eCall none m_is_whole [.val (eN (gg2 gIx) [.bor 1, .val (eC (.int 1))]), .val (eC (.int 0)), .val (eN (gg2 gSub) [.val (eN (gg1 gLen) [.val (eN (gg2 gIx) [.bor 0, .val (eC (.int 0))])]), .val (eC (.int 1))])]))))
theorem x_b_is_cell (e : Ev) : b_is_cell e = (sSeq (sIf (tOrM (tNotM (tVal (.val (eN (gg1 (gIsi "tuple")) [.bor 1])))) (tB1 (eN (gg2 gNe) [.val (eN (gg1 gLen) [.bor 1]), .val (eC (.int 2))]))) (sRet (eC (.bl false))) sNx)
    (sRet (eAnd (.val (eCall none m_is_whole [.val (eN (gg2 gIx) [.bor 1, .val (eC (.int 0))]), .val (eC (.int 0)), .val (eN (gg2 gSub) [.val (eN (gg1 gLen) [.bor 0]), .val (eC (.int 1))])])) (eCall none m_is_whole [.val (eN (gg2 gIx) [.bor 1, .val (eC (.int 1))]), .val (eC (.int 0)), .val (eN (gg2 gSub) [.val (eN (gg1 gLen) [.val (eN (gg2 gIx) [.bor 0, .val (eC (.int 0))])]), .val (eC (.int 1))])])))) e := rfl
def m_is_cell : List D → RF := bodyM none 2 b_is_cell
abbrev n_is_cell : List Str := ["sea", "thing"]
abbrev t_is_cell : List (Str × Gb) := [("isinstance", .bi), ("tuple", .bi), ("len", .bi), ("is_whole", .fn ⟨none, 3, m_is_whole⟩)]
abbrev s_need_cell : Stmt := top 15
def b_need_cell : M Fl :=
    (sIf (tNotM (tVal (.val (eCall none m_is_cell [.val (eVar 0), .val (eVar 1)])))) sBad sNx)
theorem x_b_need_cell (e : Ev) : b_need_cell e = (sIf (tNotM (tVal (.val (eCall none m_is_cell [.val (eVar 0), .val (eVar 1)])))) sBad sNx) e := rfl
def m_need_cell : List D → RF := bodyM none 2 b_need_cell
abbrev n_need_cell : List Str := ["sea", "cell"]
abbrev t_need_cell : List (Str × Gb) := [("is_cell", .fn ⟨none, 2, m_is_cell⟩)]
abbrev s_need_day : Stmt := top 16
def b_need_day : M Fl :=
    (sIf (tNotM (tVal (.val (eCall none m_is_whole [.val (eVar 0), .val (eC (.int 0)), .val (eC k_LAST_DAY)])))) sBad sNx)
theorem x_b_need_day (e : Ev) : b_need_day e = (sIf (tNotM (tVal (.val (eCall none m_is_whole [.val (eVar 0), .val (eC (.int 0)), .val (eC k_LAST_DAY)])))) sBad sNx) e := rfl
def m_need_day : List D → RF := bodyM none 1 b_need_day
abbrev n_need_day : List Str := ["day"]
abbrev t_need_day : List (Str × Gb) := [("is_whole", .fn ⟨none, 3, m_is_whole⟩), ("LAST_DAY", .con k_LAST_DAY)]
abbrev s_depth_at : Stmt := top 17
def b_depth_at : M Fl :=
    (sRet (eN (gg2 gIx) [.val (eN (gg2 gIx) [.bor 0, .val (eN (gg2 gIx) [.bor 1, .val (eC (.int 0))])]), .val (eN (gg2 gIx) [.bor 1, .val (eC (.int 1))])]))
theorem x_b_depth_at (e : Ev) : b_depth_at e = (sRet (eN (gg2 gIx) [.val (eN (gg2 gIx) [.bor 0, .val (eN (gg2 gIx) [.bor 1, .val (eC (.int 0))])]), .val (eN (gg2 gIx) [.bor 1, .val (eC (.int 1))])])) e := rfl
def m_depth_at : List D → RF := bodyM none 2 b_depth_at
abbrev n_depth_at : List Str := ["sea", "cell"]
abbrev t_depth_at : List (Str × Gb) := []
abbrev s_waters_beside : Stmt := top 18
def q_waters_beside_1 : M Sl :=
    (eComp (srcV (eVar 4)) (.nm 5) [5] (tAndM (tVal (.val (eCall none m_is_cell [.val (eVar 0), .val (eVar 5)]))) (tB1 (eN (gg2 gGt) [.val (eCall none m_depth_at [.val (eVar 0), .val (eVar 5)]), .val (eC (.int 0))]))) (eVar 5))
theorem x_q_waters_beside_1 (e : Ev) : q_waters_beside_1 e = (eComp (srcV (eVar 4)) (.nm 5) [5] (tAndM (tVal (.val (eCall none m_is_cell [.val (eVar 0), .val (eVar 5)]))) (tB1 (eN (gg2 gGt) [.val (eCall none m_depth_at [.val (eVar 0), .val (eVar 5)]), .val (eC (.int 0))]))) (eVar 5)) e := rfl
def b_waters_beside : M Fl :=
    (sSeq (sUnp (.tp [(.nm 2), (.nm 3)]) (eVar 1))
    (sSeq (sAsg 4 (eN gLst [.val (eN gTup [.val (eN (gg2 gSub) [.bor 2, .val (eC (.int 1))]), .val (eVar 3)]), .val (eN gTup [.val (eVar 2), .val (eN (gg2 gSub) [.bor 3, .val (eC (.int 1))])]), .val (eN gTup [.val (eVar 2), .val (eN (gg2 gAdd) [.bor 3, .val (eC (.int 1))])]), .val (eN gTup [.val (eN (gg2 gAdd) [.bor 2, .val (eC (.int 1))]), .val (eVar 3)])]))
    (sRet q_waters_beside_1)))
theorem x_b_waters_beside (e : Ev) : b_waters_beside e = (sSeq (sUnp (.tp [(.nm 2), (.nm 3)]) (eVar 1))
    (sSeq (sAsg 4 (eN gLst [.val (eN gTup [.val (eN (gg2 gSub) [.bor 2, .val (eC (.int 1))]), .val (eVar 3)]), .val (eN gTup [.val (eVar 2), .val (eN (gg2 gSub) [.bor 3, .val (eC (.int 1))])]), .val (eN gTup [.val (eVar 2), .val (eN (gg2 gAdd) [.bor 3, .val (eC (.int 1))])]), .val (eN gTup [.val (eN (gg2 gAdd) [.bor 2, .val (eC (.int 1))]), .val (eVar 3)])]))
    (sRet q_waters_beside_1))) e := rfl
def m_waters_beside : List D → RF := bodyM none 6 b_waters_beside
abbrev n_waters_beside : List Str := ["sea", "cell", "column", "row", "some", "one"]
abbrev t_waters_beside : List (Str × Gb) := [("is_cell", .fn ⟨none, 2, m_is_cell⟩), ("depth_at", .fn ⟨none, 2, m_depth_at⟩)]
abbrev s_drifted : Stmt := top 19
def wc_drifted_1 : M Bool :=
    (tAndM (tB1 (eN (gg2 gNe) [.bor 4, .val (eN gLst [])])) (tB1 (eN (gg2 gGt) [.bor 5, .val (eC (.int 0))])))
theorem x_wc_drifted_1 (e : Ev) : wc_drifted_1 e = (tAndM (tB1 (eN (gg2 gNe) [.bor 4, .val (eN gLst [])])) (tB1 (eN (gg2 gGt) [.bor 5, .val (eC (.int 0))]))) e := rfl
def l_drifted_1 : M Fl :=
    (sIf (tB1 (eN (gg2 gNin) [.bor 8, .bor 3])) (sStore 6 (eC (.bl true)) (eVar 8)) sNx)
theorem x_l_drifted_1 (e : Ev) : l_drifted_1 e = (sIf (tB1 (eN (gg2 gNin) [.bor 8, .bor 3])) (sStore 6 (eC (.bl true)) (eVar 8)) sNx) e := rfl
def l_drifted_2 : M Fl :=
    (sFor (srcV (eCall none m_waters_beside [.val (eVar 0), .val (eVar 7)])) (.nm 8) l_drifted_1)
theorem x_l_drifted_2 (e : Ev) : l_drifted_2 e = (sFor (srcV (eCall none m_waters_beside [.val (eVar 0), .val (eVar 7)])) (.nm 8) l_drifted_1) e := rfl
def l_drifted_3 : M Fl :=
    (sSeq (sAsg 6 (eOwn (.dt [] [])))
    (sSeq (sFor (srcV (eVar 4)) (.nm 7) l_drifted_2)
    (sSeq (sExpr (eMut "dict" 3 gUpd [.val (eVar 6)]))
    (sPar [4, 5] [(eN (gg1 gLstOf) [.bor 6]), (eN (gg2 gSub) [.bor 5, .val (eC (.int 1))])]))))
theorem x_l_drifted_3 (e : Ev) : l_drifted_3 e = (sSeq (sAsg 6 (eOwn (.dt [] [])))
    (sSeq (sFor (srcV (eVar 4)) (.nm 7) l_drifted_2)
    (sSeq (sExpr (eMut "dict" 3 gUpd [.val (eVar 6)]))
    (sPar [4, 5] [(eN (gg1 gLstOf) [.bor 6]), (eN (gg2 gSub) [.bor 5, .val (eC (.int 1))])])))) e := rfl
def b_drifted : M Fl :=
    (sSeq (sAsg 3 (eN (gg1 (gDisp1 (.bl true))) [.bor 1]))
    (sSeq (sIf (tB1 (eN (gg2 gEq) [.val (eCall none m_depth_at [.val (eVar 0), .val (eVar 1)]), .val (eC (.int 0))])) (sRet (eN gTup [.val (eVar 1)])) sNx)
    (sSeq (sPar [4, 5] [(eN gLst [.val (eVar 1)]), (eVar 2)])
    (sSeq (whileM wc_drifted_1 l_drifted_3 wF)
    (sRet (eN (gg1 gTupOf) [.val (eN (gg1 gSorted) [.bor 3])]))))))
theorem x_b_drifted (e : Ev) : b_drifted e = (sSeq (sAsg 3 (eN (gg1 (gDisp1 (.bl true))) [.bor 1]))
    (sSeq (sIf (tB1 (eN (gg2 gEq) [.val (eCall none m_depth_at [.val (eVar 0), .val (eVar 1)]), .val (eC (.int 0))])) (sRet (eN gTup [.val (eVar 1)])) sNx)
    (sSeq (sPar [4, 5] [(eN gLst [.val (eVar 1)]), (eVar 2)])
    (sSeq (whileM wc_drifted_1 l_drifted_3 wF)
    (sRet (eN (gg1 gTupOf) [.val (eN (gg1 gSorted) [.bor 3])])))))) e := rfl
def m_drifted : List D → RF := bodyM none 9 b_drifted
abbrev n_drifted : List Str := ["sea", "cell", "days", "found", "ring", "left", "fresh", "one", "near"]
abbrev t_drifted : List (Str × Gb) := [("depth_at", .fn ⟨none, 2, m_depth_at⟩), ("waters_beside", .fn ⟨none, 2, m_waters_beside⟩), ("list", .bi), ("tuple", .bi), ("sorted", .bi)]
abbrev s_drift : Stmt := top 20
def b_drift : M Fl :=
    (sSeq (sExpr (eCall none m_need_sea [.val (eVar 0)]))
    (sSeq (sExpr (eCall none m_need_cell [.val (eVar 0), .val (eVar 1)]))
    (sSeq (sExpr (eCall none m_need_day [.val (eVar 2)]))
    (sRet (eCall none m_drifted [.val (eVar 0), .val (eVar 1), .val (eVar 2)])))))
theorem x_b_drift (e : Ev) : b_drift e = (sSeq (sExpr (eCall none m_need_sea [.val (eVar 0)]))
    (sSeq (sExpr (eCall none m_need_cell [.val (eVar 0), .val (eVar 1)]))
    (sSeq (sExpr (eCall none m_need_day [.val (eVar 2)]))
    (sRet (eCall none m_drifted [.val (eVar 0), .val (eVar 1), .val (eVar 2)]))))) e := rfl
def m_drift : List D → RF := bodyM none 3 b_drift
abbrev n_drift : List Str := ["sea", "cell", "days"]
abbrev t_drift : List (Str × Gb) := [("need_sea", .fn ⟨none, 1, m_need_sea⟩), ("need_cell", .fn ⟨none, 2, m_need_cell⟩), ("need_day", .fn ⟨none, 1, m_need_day⟩), ("drifted", .fn ⟨none, 3, m_drifted⟩)]
abbrev s__law_box : Stmt := top 22
def l__law_box_1 : M Fl :=
    (sSeq (sAsg 5 (eN (gg2 gMod) [.val (eN (gg2 gAdd) [.val (eN (gg2 gAdd) [.val (eN (gg2 gMul) [.val (eN (gg2 gMod) [.bor 2, .val (eC (.int 2147483647))]), .val (eC (.int 48271))]), .val (eN (gg2 gMul) [.val (eC (.int 7919)), .bor 4])]), .val (eC (.int 1))]), .val (eC (.int 2147483647))]))
    (sSeq (sAsg 5 (eN (gg2 gMod) [.val (eN (gg2 gMul) [.bor 5, .bor 5]), .val (eC (.int 2147483629))]))
    (sAsg 3 (eN (gg2 gAdd) [.val (eN (gg2 gMul) [.bor 3, .val (eC (.int 2147483647))]), .val (eN (gg2 gMod) [.val (eN (gg2 gMul) [.bor 5, .val (eN (gg2 gAdd) [.bor 5, .val (eC (.int 13))])]), .val (eC (.int 2147483647))])]))))
theorem x_l__law_box_1 (e : Ev) : l__law_box_1 e = (sSeq (sAsg 5 (eN (gg2 gMod) [.val (eN (gg2 gAdd) [.val (eN (gg2 gAdd) [.val (eN (gg2 gMul) [.val (eN (gg2 gMod) [.bor 2, .val (eC (.int 2147483647))]), .val (eC (.int 48271))]), .val (eN (gg2 gMul) [.val (eC (.int 7919)), .bor 4])]), .val (eC (.int 1))]), .val (eC (.int 2147483647))]))
    (sSeq (sAsg 5 (eN (gg2 gMod) [.val (eN (gg2 gMul) [.bor 5, .bor 5]), .val (eC (.int 2147483629))]))
    (sAsg 3 (eN (gg2 gAdd) [.val (eN (gg2 gMul) [.bor 3, .val (eC (.int 2147483647))]), .val (eN (gg2 gMod) [.val (eN (gg2 gMul) [.bor 5, .val (eN (gg2 gAdd) [.bor 5, .val (eC (.int 13))])]), .val (eC (.int 2147483647))])])))) e := rfl
def b__law_box : M Fl :=
    (sSeq (sAsg 2 (eN (gg2 gAdd) [.val (eN (gg2 gMul) [.val (eC (.int 7919)), .bor 1]), .val (eC (.int 13))]))
    (sSeq (sIf (tB1 (eN (gg2 gLt) [.bor 1, .val (eN (gg1 gLen) [.bor 0])])) (sAsg 2 (eN (gg2 gIx) [.bor 0, .bor 1])) sNx)
    (sSeq (sIf (tB1 (eN (gg2 gEq) [.val (eN (gg2 gMod) [.bor 2, .val (eC (.int 2))]), .val (eC (.int 0))])) (sRet (eN gLst [.val (eN (gg2 gDiv) [.bor 2, .val (eC (.int 2))]), .val (eN (gg2 gMod) [.val (eN (gg1 gAbs) [.bor 2]), .val (eC (.int 2147483647))])])) sNx)
    (sSeq (sAsg 3 (eC (.int 0)))
    (sSeq (sFor (srcG gRng [.val (eC (.int 16))]) (.nm 4) l__law_box_1)
    (sRet (eN gLst [.val (eVar 3), .val (eN (gg2 gMod) [.val (eN (gg1 gAbs) [.bor 2]), .val (eC (.int 2147483647))])])))))))
theorem x_b__law_box (e : Ev) : b__law_box e = (sSeq (sAsg 2 (eN (gg2 gAdd) [.val (eN (gg2 gMul) [.val (eC (.int 7919)), .bor 1]), .val (eC (.int 13))]))
    (sSeq (sIf (tB1 (eN (gg2 gLt) [.bor 1, .val (eN (gg1 gLen) [.bor 0])])) (sAsg 2 (eN (gg2 gIx) [.bor 0, .bor 1])) sNx)
    (sSeq (sIf (tB1 (eN (gg2 gEq) [.val (eN (gg2 gMod) [.bor 2, .val (eC (.int 2))]), .val (eC (.int 0))])) (sRet (eN gLst [.val (eN (gg2 gDiv) [.bor 2, .val (eC (.int 2))]), .val (eN (gg2 gMod) [.val (eN (gg1 gAbs) [.bor 2]), .val (eC (.int 2147483647))])])) sNx)
    (sSeq (sAsg 3 (eC (.int 0)))
    (sSeq (sFor (srcG gRng [.val (eC (.int 16))]) (.nm 4) l__law_box_1)
    (sRet (eN gLst [.val (eVar 3), .val (eN (gg2 gMod) [.val (eN (gg1 gAbs) [.bor 2]), .val (eC (.int 2147483647))])]))))))) e := rfl
def m__law_box : List D → RF := bodyM none 6 b__law_box
abbrev n__law_box : List Str := ["_law_script", "_law_k", "_law_here", "_law_number", "_law_j", "_law_piece"]
abbrev t__law_box : List (Str × Gb) := [("len", .bi), ("abs", .bi), ("range", .bi)]
abbrev s__law_more : Stmt := top 23
def l__law_more_1 : M Fl :=
    (sSeq (sStore 0 (eN (gg2 gMod) [.val (eN (gg2 gAdd) [.val (eN (gg2 gMul) [.val (eN (gg2 gIx) [.bor 0, .val (eC (.int 1))]), .val (eC (.int 48271))]), .val (eC (.int 30269))]), .val (eC (.int 2147483647))]) (eC (.int 1)))
    (sAsg 1 (eN (gg2 gAdd) [.val (eN (gg2 gMul) [.bor 1, .val (eC (.int 65521))]), .val (eN (gg2 gMod) [.val (eN (gg2 gDiv) [.val (eN (gg2 gIx) [.bor 0, .val (eC (.int 1))]), .val (eC (.int 7))]), .val (eC (.int 65521))])])))
theorem x_l__law_more_1 (e : Ev) : l__law_more_1 e = (sSeq (sStore 0 (eN (gg2 gMod) [.val (eN (gg2 gAdd) [.val (eN (gg2 gMul) [.val (eN (gg2 gIx) [.bor 0, .val (eC (.int 1))]), .val (eC (.int 48271))]), .val (eC (.int 30269))]), .val (eC (.int 2147483647))]) (eC (.int 1)))
    (sAsg 1 (eN (gg2 gAdd) [.val (eN (gg2 gMul) [.bor 1, .val (eC (.int 65521))]), .val (eN (gg2 gMod) [.val (eN (gg2 gDiv) [.val (eN (gg2 gIx) [.bor 0, .val (eC (.int 1))]), .val (eC (.int 7))]), .val (eC (.int 65521))])]))) e := rfl
def b__law_more : M Fl :=
    (sSeq (sAsg 1 (eC (.int 0)))
    (sSeq (sFor (srcG gRng [.val (eC (.int 12))]) (.nm 2) l__law_more_1)
    (sRetV 1)))
theorem x_b__law_more (e : Ev) : b__law_more e = (sSeq (sAsg 1 (eC (.int 0)))
    (sSeq (sFor (srcG gRng [.val (eC (.int 12))]) (.nm 2) l__law_more_1)
    (sRetV 1))) e := rfl
def m__law_more : List D → RF := bodyM (some 0) 3 b__law_more
abbrev n__law_more : List Str := ["_law_box_here", "_law_number", "_law_j"]
abbrev t__law_more : List (Str × Gb) := [("range", .bi)]
abbrev s__law_take : Stmt := top 24
def b__law_take : M Fl :=
    (sSeq (sIf (tB1 (eChain (fun i j => decide (i ≤ j)) (fun i j => decide (i < j)) (.val (eC (.int 0))) (.val (eN (gg2 gIx) [.bor 0, .val (eC (.int 0))])) (.bor 1))) (sStore 0 (eN (gg2 gAdd) [.val (eN (gg2 gIx) [.bor 0, .val (eC (.int 0))]), .val (eN (gg2 gMul) [.bor 1, .val (eCall (some 0) m__law_more [.bor 0])])]) (eC (.int 0))) sNx)
    (sSeq (sUnp (.tp [(.nm 2), (.nm 3)]) (eN (gg2 gDivmod) [.val (eN (gg2 gIx) [.bor 0, .val (eC (.int 0))]), .bor 1]))
    (sSeq (sStore 0 (eVar 2) (eC (.int 0)))
    (sRetV 3))))
theorem x_b__law_take (e : Ev) : b__law_take e = (sSeq (sIf (tB1 (eChain (fun i j => decide (i ≤ j)) (fun i j => decide (i < j)) (.val (eC (.int 0))) (.val (eN (gg2 gIx) [.bor 0, .val (eC (.int 0))])) (.bor 1))) (sStore 0 (eN (gg2 gAdd) [.val (eN (gg2 gIx) [.bor 0, .val (eC (.int 0))]), .val (eN (gg2 gMul) [.bor 1, .val (eCall (some 0) m__law_more [.bor 0])])]) (eC (.int 0))) sNx)
    (sSeq (sUnp (.tp [(.nm 2), (.nm 3)]) (eN (gg2 gDivmod) [.val (eN (gg2 gIx) [.bor 0, .val (eC (.int 0))]), .bor 1]))
    (sSeq (sStore 0 (eVar 2) (eC (.int 0)))
    (sRetV 3)))) e := rfl
def m__law_take : List D → RF := bodyM (some 0) 4 b__law_take
abbrev n__law_take : List Str := ["_law_box_here", "_law_count", "_law_rest_of", "_law_digit"]
abbrev t__law_take : List (Str × Gb) := [("_law_more", .fn ⟨some 0, 1, m__law_more⟩), ("divmod", .bi)]
abbrev s__law_sea : Stmt := top 25
def l__law_sea_1 : M Fl :=
    (sSeq (sAsg 10 (eN (gg2 gIx) [.val (eN gLst [.val (eC (.int 9)), .val (eC (.int 5)), .val (eC (.int 3)), .val (eN (gg2 gAdd) [.val (eC (.int 1)), .val (eCall (some 0) m__law_take [.bor 0, .val (eC (.int 9))])])]), .val (eCall (some 0) m__law_take [.bor 0, .val (eC (.int 4))])]))
    (sSeq (sIf (tB1 (eN (gg2 gEq) [.val (eCall (some 0) m__law_take [.bor 0, .val (eN (gg2 gIx) [.val (eN gLst [.val (eC (.int 9)), .val (eC (.int 4)), .val (eC (.int 30)), .val (eC (.int 2))]), .bor 5])]), .val (eC (.int 0))])) (sAsg 10 (eN (gg2 gIx) [.val (eN gLst [.val (eC (.int 0)), .val (eC (.int 0)), .val (eC (.int 1)), .val (eC (.int 2))]), .val (eCall (some 0) m__law_take [.bor 0, .val (eC (.int 4))])])) sNx)
    (sExpr (eMut "list" 8 gApp [.val (eVar 10)]))))
theorem x_l__law_sea_1 (e : Ev) : l__law_sea_1 e = (sSeq (sAsg 10 (eN (gg2 gIx) [.val (eN gLst [.val (eC (.int 9)), .val (eC (.int 5)), .val (eC (.int 3)), .val (eN (gg2 gAdd) [.val (eC (.int 1)), .val (eCall (some 0) m__law_take [.bor 0, .val (eC (.int 9))])])]), .val (eCall (some 0) m__law_take [.bor 0, .val (eC (.int 4))])]))
    (sSeq (sIf (tB1 (eN (gg2 gEq) [.val (eCall (some 0) m__law_take [.bor 0, .val (eN (gg2 gIx) [.val (eN gLst [.val (eC (.int 9)), .val (eC (.int 4)), .val (eC (.int 30)), .val (eC (.int 2))]), .bor 5])]), .val (eC (.int 0))])) (sAsg 10 (eN (gg2 gIx) [.val (eN gLst [.val (eC (.int 0)), .val (eC (.int 0)), .val (eC (.int 1)), .val (eC (.int 2))]), .val (eCall (some 0) m__law_take [.bor 0, .val (eC (.int 4))])])) sNx)
    (sExpr (eMut "list" 8 gApp [.val (eVar 10)])))) e := rfl
def l__law_sea_2 : M Fl :=
    (sSeq (sAsg 8 (eN gLst []))
    (sSeq (sFor (srcG gRng [.val (eVar 4)]) (.nm 9) l__law_sea_1)
    (sExpr (eMut "list" 6 gApp [.val (eN (gg1 gTupOf) [.bor 8])]))))
theorem x_l__law_sea_2 (e : Ev) : l__law_sea_2 e = (sSeq (sAsg 8 (eN gLst []))
    (sSeq (sFor (srcG gRng [.val (eVar 4)]) (.nm 9) l__law_sea_1)
    (sExpr (eMut "list" 6 gApp [.val (eN (gg1 gTupOf) [.bor 8])])))) e := rfl
def b__law_sea : M Fl :=
    (sSeq (sPar [3, 4] [(eN (gg2 gAdd) [.val (eC (.int 2)), .val (eCall (some 0) m__law_take [.bor 0, .val (eN (gg2 gSub) [.bor 1, .val (eC (.int 1))])])]), (eN (gg2 gAdd) [.val (eC (.int 1)), .val (eCall (some 0) m__law_take [.bor 0, .val (eVar 2)])])])
    (sSeq (sPar [5, 6] [(eCall (some 0) m__law_take [.bor 0, .val (eC (.int 4))]), (eN gLst [])])
    (sSeq (sFor (srcG gRng [.val (eVar 3)]) (.nm 7) l__law_sea_2)
    (sRet (eN (gg1 gTupOf) [.bor 6])))))
theorem x_b__law_sea (e : Ev) : b__law_sea e = (sSeq (sPar [3, 4] [(eN (gg2 gAdd) [.val (eC (.int 2)), .val (eCall (some 0) m__law_take [.bor 0, .val (eN (gg2 gSub) [.bor 1, .val (eC (.int 1))])])]), (eN (gg2 gAdd) [.val (eC (.int 1)), .val (eCall (some 0) m__law_take [.bor 0, .val (eVar 2)])])])
    (sSeq (sPar [5, 6] [(eCall (some 0) m__law_take [.bor 0, .val (eC (.int 4))]), (eN gLst [])])
    (sSeq (sFor (srcG gRng [.val (eVar 3)]) (.nm 7) l__law_sea_2)
    (sRet (eN (gg1 gTupOf) [.bor 6]))))) e := rfl
def m__law_sea : List D → RF := bodyM (some 0) 11 b__law_sea
abbrev n__law_sea : List Str := ["_law_box_here", "_law_wide", "_law_high", "_law_columns", "_law_rows", "_law_way", "_law_found", "_law_column", "_law_depths", "_law_row", "_law_depth"]
abbrev t__law_sea : List (Str × Gb) := [("_law_take", .fn ⟨some 0, 2, m__law_take⟩), ("range", .bi), ("tuple", .bi)]
abbrev s__law_cell_of : Stmt := top 26
def b__law_cell_of : M Fl :=
    (sRet (eN gTup [.val (eCall (some 0) m__law_take [.bor 0, .val (eN (gg1 gLen) [.bor 1])]), .val (eCall (some 0) m__law_take [.bor 0, .val (eN (gg1 gLen) [.val (eN (gg2 gIx) [.bor 1, .val (eC (.int 0))])])])]))
theorem x_b__law_cell_of (e : Ev) : b__law_cell_of e = (sRet (eN gTup [.val (eCall (some 0) m__law_take [.bor 0, .val (eN (gg1 gLen) [.bor 1])]), .val (eCall (some 0) m__law_take [.bor 0, .val (eN (gg1 gLen) [.val (eN (gg2 gIx) [.bor 1, .val (eC (.int 0))])])])])) e := rfl
def m__law_cell_of : List D → RF := bodyM (some 0) 2 b__law_cell_of
abbrev n__law_cell_of : List Str := ["_law_box_here", "_law_sea_here"]
abbrev t__law_cell_of : List (Str × Gb) := [("_law_take", .fn ⟨some 0, 2, m__law_take⟩), ("len", .bi)]
abbrev s__law_round : Stmt := top 27
def q__law_round_1 : M Sl :=
    (eComp (srcV (eVar 1)) (.nm 3) [3] tYesM (eN gTup [.val (eVar 3), .val (eC (.bl true))]))
theorem x_q__law_round_1 (e : Ev) : q__law_round_1 e = (eComp (srcV (eVar 1)) (.nm 3) [3] tYesM (eN gTup [.val (eVar 3), .val (eC (.bl true))])) e := rfl
def l__law_round_1 : M Fl :=
    (sIf (tAndM (tB1 (eChain (fun i j => decide (i ≤ j)) (fun i j => decide (i < j)) (.val (eC (.int 0))) (.val (eN (gg2 gIx) [.bor 6, .val (eC (.int 0))])) (.val (eN (gg1 gLen) [.bor 0])))) (tB1 (eChain (fun i j => decide (i ≤ j)) (fun i j => decide (i < j)) (.val (eC (.int 0))) (.val (eN (gg2 gIx) [.bor 6, .val (eC (.int 1))])) (.val (eN (gg1 gLen) [.val (eN (gg2 gIx) [.bor 0, .val (eC (.int 0))])]))))) (sIf (tB1 (eN (gg2 gGt) [.val (eN (gg2 gIx) [.val (eN (gg2 gIx) [.bor 0, .val (eN (gg2 gIx) [.bor 6, .val (eC (.int 0))])]), .val (eN (gg2 gIx) [.bor 6, .val (eC (.int 1))])]), .val (eC (.int 0))])) (sStore 2 (eC (.bl true)) (eVar 6)) sNx) sNx)
theorem x_l__law_round_1 (e : Ev) : l__law_round_1 e = (sIf (tAndM (tB1 (eChain (fun i j => decide (i ≤ j)) (fun i j => decide (i < j)) (.val (eC (.int 0))) (.val (eN (gg2 gIx) [.bor 6, .val (eC (.int 0))])) (.val (eN (gg1 gLen) [.bor 0])))) (tB1 (eChain (fun i j => decide (i ≤ j)) (fun i j => decide (i < j)) (.val (eC (.int 0))) (.val (eN (gg2 gIx) [.bor 6, .val (eC (.int 1))])) (.val (eN (gg1 gLen) [.val (eN (gg2 gIx) [.bor 0, .val (eC (.int 0))])]))))) (sIf (tB1 (eN (gg2 gGt) [.val (eN (gg2 gIx) [.val (eN (gg2 gIx) [.bor 0, .val (eN (gg2 gIx) [.bor 6, .val (eC (.int 0))])]), .val (eN (gg2 gIx) [.bor 6, .val (eC (.int 1))])]), .val (eC (.int 0))])) (sStore 2 (eC (.bl true)) (eVar 6)) sNx) sNx) e := rfl
def l__law_round_2 : M Fl :=
    (sFor (srcV (eN gLst [.val (eN gTup [.val (eN (gg2 gSub) [.bor 4, .val (eC (.int 1))]), .val (eVar 5)]), .val (eN gTup [.val (eN (gg2 gAdd) [.bor 4, .val (eC (.int 1))]), .val (eVar 5)]), .val (eN gTup [.val (eVar 4), .val (eN (gg2 gSub) [.bor 5, .val (eC (.int 1))])]), .val (eN gTup [.val (eVar 4), .val (eN (gg2 gAdd) [.bor 5, .val (eC (.int 1))])])])) (.nm 6) l__law_round_1)
theorem x_l__law_round_2 (e : Ev) : l__law_round_2 e = (sFor (srcV (eN gLst [.val (eN gTup [.val (eN (gg2 gSub) [.bor 4, .val (eC (.int 1))]), .val (eVar 5)]), .val (eN gTup [.val (eN (gg2 gAdd) [.bor 4, .val (eC (.int 1))]), .val (eVar 5)]), .val (eN gTup [.val (eVar 4), .val (eN (gg2 gSub) [.bor 5, .val (eC (.int 1))])]), .val (eN gTup [.val (eVar 4), .val (eN (gg2 gAdd) [.bor 5, .val (eC (.int 1))])])])) (.nm 6) l__law_round_1) e := rfl
def b__law_round : M Fl :=
    (sSeq (sAsg 2 (eN (gg1 gDict) [.val q__law_round_1]))
    (sSeq (sFor (srcV (eVar 1)) (.tp [(.nm 4), (.nm 5)]) l__law_round_2)
    (sRet (eN (gg1 gSorted) [.bor 2]))))
theorem x_b__law_round (e : Ev) : b__law_round e = (sSeq (sAsg 2 (eN (gg1 gDict) [.val q__law_round_1]))
    (sSeq (sFor (srcV (eVar 1)) (.tp [(.nm 4), (.nm 5)]) l__law_round_2)
    (sRet (eN (gg1 gSorted) [.bor 2])))) e := rfl
def m__law_round : List D → RF := bodyM none 7 b__law_round
abbrev n__law_round : List Str := ["_law_sea_here", "_law_cells", "_law_found", "_law_cell", "_law_column", "_law_row", "_law_other"]
abbrev t__law_round : List (Str × Gb) := [("dict", .bi), ("len", .bi), ("sorted", .bi)]
abbrev s__law_drift : Stmt := top 28
def l__law_drift_1 : M Fl :=
    (sIf (tB1 (eN (gg2 gNe) [.bor 3, .bor 4])) (sSeq (sAsg 4 (eVar 3))
    (sAsg 3 (eCall none m__law_round [.val (eVar 0), .val (eVar 3)]))) sNx)
theorem x_l__law_drift_1 (e : Ev) : l__law_drift_1 e = (sIf (tB1 (eN (gg2 gNe) [.bor 3, .bor 4])) (sSeq (sAsg 4 (eVar 3))
    (sAsg 3 (eCall none m__law_round [.val (eVar 0), .val (eVar 3)]))) sNx) e := rfl
def b__law_drift : M Fl :=
    (sSeq (sPar [3, 4] [(eN gLst [.val (eVar 1)]), (eC .non)])
    (sSeq (sIf (tB1 (eN (gg2 gEq) [.val (eN (gg2 gIx) [.val (eN (gg2 gIx) [.bor 0, .val (eN (gg2 gIx) [.bor 1, .val (eC (.int 0))])]), .val (eN (gg2 gIx) [.bor 1, .val (eC (.int 1))])]), .val (eC (.int 0))])) (sRet (eN (gg1 gTupOf) [.bor 3])) sNx)
    (sSeq (sFor (srcG gRng [.val (eVar 2)]) (.nm 5) l__law_drift_1)
    (sRet (eN (gg1 gTupOf) [.bor 3])))))
theorem x_b__law_drift (e : Ev) : b__law_drift e = (sSeq (sPar [3, 4] [(eN gLst [.val (eVar 1)]), (eC .non)])
    (sSeq (sIf (tB1 (eN (gg2 gEq) [.val (eN (gg2 gIx) [.val (eN (gg2 gIx) [.bor 0, .val (eN (gg2 gIx) [.bor 1, .val (eC (.int 0))])]), .val (eN (gg2 gIx) [.bor 1, .val (eC (.int 1))])]), .val (eC (.int 0))])) (sRet (eN (gg1 gTupOf) [.bor 3])) sNx)
    (sSeq (sFor (srcG gRng [.val (eVar 2)]) (.nm 5) l__law_drift_1)
    (sRet (eN (gg1 gTupOf) [.bor 3]))))) e := rfl
def m__law_drift : List D → RF := bodyM none 6 b__law_drift
abbrev n__law_drift : List Str := ["_law_sea_here", "_law_cell", "_law_days", "_law_found", "_law_ahead", "_law_day"]
abbrev t__law_drift : List (Str × Gb) := [("tuple", .bi), ("range", .bi), ("_law_round", .fn ⟨none, 2, m__law_round⟩)]
abbrev s_law : Stmt := top 29
def l_law_1 : M Fl :=
    (sSeq (sAsg 7 (eCall none m__law_drift [.val (eVar 3), .val (eVar 5), .val (eVar 6)]))
    (sIf (tOrM (tB1 (eN (gg2 gNe) [.val (eN (gg1 gRepr) [.val (eCall none m_drift [.val (eVar 3), .val (eVar 5), .val (eVar 6)])]), .val (eN (gg1 gRepr) [.bor 7])])) (tB1 (eN (gg2 gNe) [.val (eN (gg1 gRepr) [.val (eCall none m_drift [.val (eVar 3), .val (eVar 5), .val (eVar 6)])]), .val (eN (gg1 gRepr) [.bor 7])]))) (sRet (eC (.bl false))) sNx))
theorem x_l_law_1 (e : Ev) : l_law_1 e = (sSeq (sAsg 7 (eCall none m__law_drift [.val (eVar 3), .val (eVar 5), .val (eVar 6)]))
    (sIf (tOrM (tB1 (eN (gg2 gNe) [.val (eN (gg1 gRepr) [.val (eCall none m_drift [.val (eVar 3), .val (eVar 5), .val (eVar 6)])]), .val (eN (gg1 gRepr) [.bor 7])])) (tB1 (eN (gg2 gNe) [.val (eN (gg1 gRepr) [.val (eCall none m_drift [.val (eVar 3), .val (eVar 5), .val (eVar 6)])]), .val (eN (gg1 gRepr) [.bor 7])]))) (sRet (eC (.bl false))) sNx)) e := rfl
def l_law_2 : M Fl :=
    (sSeq (sAsg 5 (eCall (some 0) m__law_cell_of [.bor 2, .val (eVar 3)]))
    (sFor (srcV (eN gLst [.val (eC (.int 0)), .val (eC (.int 1)), .val (eN (gg2 gAdd) [.val (eC (.int 2)), .val (eCall (some 0) m__law_take [.bor 2, .val (eC (.int 6))])]), .val (eN (gg2 gIx) [.val (eN gLst [.val (eC (.int 400)), .val (eC (.int 24))]), .val (eN (gg2 gMod) [.bor 4, .val (eC (.int 2))])])])) (.nm 6) l_law_1))
theorem x_l_law_2 (e : Ev) : l_law_2 e = (sSeq (sAsg 5 (eCall (some 0) m__law_cell_of [.bor 2, .val (eVar 3)]))
    (sFor (srcV (eN gLst [.val (eC (.int 0)), .val (eC (.int 1)), .val (eN (gg2 gAdd) [.val (eC (.int 2)), .val (eCall (some 0) m__law_take [.bor 2, .val (eC (.int 6))])]), .val (eN (gg2 gIx) [.val (eN gLst [.val (eC (.int 400)), .val (eC (.int 24))]), .val (eN (gg2 gMod) [.bor 4, .val (eC (.int 2))])])])) (.nm 6) l_law_1)) e := rfl
def l_law_3 : M Fl :=
    (sSeq (sAsg 2 (eCall none m__law_box [.val (eVar 0), .val (eVar 1)]))
    (sSeq (sAsg 3 (eCall (some 0) m__law_sea [.bor 2, .val (eN (gg2 gIx) [.val (eN gLst [.val (eC (.int 5)), .val (eC (.int 16))]), .val (eCall (some 0) m__law_take [.bor 2, .val (eC (.int 2))])]), .val (eN (gg2 gIx) [.val (eN gLst [.val (eC (.int 4)), .val (eC (.int 9))]), .val (eCall (some 0) m__law_take [.bor 2, .val (eC (.int 2))])])]))
    (sFor (srcG gRng [.val (eC (.int 4))]) (.nm 4) l_law_2)))
theorem x_l_law_3 (e : Ev) : l_law_3 e = (sSeq (sAsg 2 (eCall none m__law_box [.val (eVar 0), .val (eVar 1)]))
    (sSeq (sAsg 3 (eCall (some 0) m__law_sea [.bor 2, .val (eN (gg2 gIx) [.val (eN gLst [.val (eC (.int 5)), .val (eC (.int 16))]), .val (eCall (some 0) m__law_take [.bor 2, .val (eC (.int 2))])]), .val (eN (gg2 gIx) [.val (eN gLst [.val (eC (.int 4)), .val (eC (.int 9))]), .val (eCall (some 0) m__law_take [.bor 2, .val (eC (.int 2))])])]))
    (sFor (srcG gRng [.val (eC (.int 4))]) (.nm 4) l_law_2))) e := rfl
def b_law : M Fl :=
    (sSeq (sFor (srcG gRng [.val (eN (gMax) [.val (eC (.int 1)), .val (eN (gMin) [.val (eN (gg1 gLen) [.bor 0]), .val (eC (.int 4))])])]) (.nm 1) l_law_3)
    (sRet (eC (.bl true))))
theorem x_b_law (e : Ev) : b_law e = (sSeq (sFor (srcG gRng [.val (eN (gMax) [.val (eC (.int 1)), .val (eN (gMin) [.val (eN (gg1 gLen) [.bor 0]), .val (eC (.int 4))])])]) (.nm 1) l_law_3)
    (sRet (eC (.bl true)))) e := rfl
def m_law : List D → RF := bodyM none 8 b_law
abbrev n_law : List Str := ["_law_script", "_law_k", "_law_box_here", "_law_sea_here", "_law_turn", "_law_cell", "_law_days", "_law_due"]
abbrev t_law : List (Str × Gb) := [("range", .bi), ("max", .bi), ("min", .bi), ("len", .bi), ("_law_box", .fn ⟨none, 2, m__law_box⟩), ("_law_sea", .fn ⟨some 0, 3, m__law_sea⟩), ("_law_take", .fn ⟨some 0, 2, m__law_take⟩), ("_law_cell_of", .fn ⟨some 0, 2, m__law_cell_of⟩), ("_law_drift", .fn ⟨none, 3, m__law_drift⟩), ("repr", .bi), ("drift", .fn ⟨none, 3, m_drift⟩)]
structure Txt (K : PySem.W.Frag) (mg : Str → Option Value) where
  f_is_whole : Addr
  d_is_whole : FuncData
  F_is_whole : Fun K "is_whole" "is_whole" s_is_whole f_is_whole d_is_whole
  g_is_whole : mg "is_whole" = some (.ref f_is_whole)
  f_is_column : Addr
  d_is_column : FuncData
  F_is_column : Fun K "is_column" "is_column" s_is_column f_is_column d_is_column
  g_is_column : mg "is_column" = some (.ref f_is_column)
  f_is_sea : Addr
  d_is_sea : FuncData
  F_is_sea : Fun K "is_sea" "is_sea" s_is_sea f_is_sea d_is_sea
  g_is_sea : mg "is_sea" = some (.ref f_is_sea)
  f_need_sea : Addr
  d_need_sea : FuncData
  F_need_sea : Fun K "need_sea" "need_sea" s_need_sea f_need_sea d_need_sea
  g_need_sea : mg "need_sea" = some (.ref f_need_sea)
  f_is_cell : Addr
  d_is_cell : FuncData
  F_is_cell : Fun K "is_cell" "is_cell" s_is_cell f_is_cell d_is_cell
  g_is_cell : mg "is_cell" = some (.ref f_is_cell)
  f_need_cell : Addr
  d_need_cell : FuncData
  F_need_cell : Fun K "need_cell" "need_cell" s_need_cell f_need_cell d_need_cell
  g_need_cell : mg "need_cell" = some (.ref f_need_cell)
  f_need_day : Addr
  d_need_day : FuncData
  F_need_day : Fun K "need_day" "need_day" s_need_day f_need_day d_need_day
  g_need_day : mg "need_day" = some (.ref f_need_day)
  f_depth_at : Addr
  d_depth_at : FuncData
  F_depth_at : Fun K "depth_at" "depth_at" s_depth_at f_depth_at d_depth_at
  g_depth_at : mg "depth_at" = some (.ref f_depth_at)
  f_waters_beside : Addr
  d_waters_beside : FuncData
  F_waters_beside : Fun K "waters_beside" "waters_beside" s_waters_beside f_waters_beside d_waters_beside
  g_waters_beside : mg "waters_beside" = some (.ref f_waters_beside)
  f_drifted : Addr
  d_drifted : FuncData
  F_drifted : Fun K "drifted" "drifted" s_drifted f_drifted d_drifted
  g_drifted : mg "drifted" = some (.ref f_drifted)
  f_drift : Addr
  d_drift : FuncData
  F_drift : Fun K "drift" "drift" s_drift f_drift d_drift
  g_drift : mg "drift" = some (.ref f_drift)
  f__law_box : Addr
  d__law_box : FuncData
  F__law_box : Fun K "_law_box" "_law_box" s__law_box f__law_box d__law_box
  g__law_box : mg "_law_box" = some (.ref f__law_box)
  f__law_more : Addr
  d__law_more : FuncData
  F__law_more : Fun K "_law_more" "_law_more" s__law_more f__law_more d__law_more
  g__law_more : mg "_law_more" = some (.ref f__law_more)
  f__law_take : Addr
  d__law_take : FuncData
  F__law_take : Fun K "_law_take" "_law_take" s__law_take f__law_take d__law_take
  g__law_take : mg "_law_take" = some (.ref f__law_take)
  f__law_sea : Addr
  d__law_sea : FuncData
  F__law_sea : Fun K "_law_sea" "_law_sea" s__law_sea f__law_sea d__law_sea
  g__law_sea : mg "_law_sea" = some (.ref f__law_sea)
  f__law_cell_of : Addr
  d__law_cell_of : FuncData
  F__law_cell_of : Fun K "_law_cell_of" "_law_cell_of" s__law_cell_of f__law_cell_of d__law_cell_of
  g__law_cell_of : mg "_law_cell_of" = some (.ref f__law_cell_of)
  f__law_round : Addr
  d__law_round : FuncData
  F__law_round : Fun K "_law_round" "_law_round" s__law_round f__law_round d__law_round
  g__law_round : mg "_law_round" = some (.ref f__law_round)
  f__law_drift : Addr
  d__law_drift : FuncData
  F__law_drift : Fun K "_law_drift" "_law_drift" s__law_drift f__law_drift d__law_drift
  g__law_drift : mg "_law_drift" = some (.ref f__law_drift)
  f_law : Addr
  d_law : FuncData
  F_law : Fun K "law" "law" s_law f_law d_law
  g_law : mg "law" = some (.ref f_law)
  z_isinstance : mg "isinstance" = none
  z_int : mg "int" = none
  z_bool : mg "bool" = none
  z_tuple : mg "tuple" = none
  z_len : mg "len" = none
  z_all : mg "all" = none
  z_list : mg "list" = none
  z_sorted : mg "sorted" = none
  z_abs : mg "abs" = none
  z_range : mg "range" = none
  z_divmod : mg "divmod" = none
  z_dict : mg "dict" = none
  z_max : mg "max" = none
  z_min : mg "min" = none
  z_repr : mg "repr" = none
  c_MOST_DEPTH : ∃ v u, mg "MOST_DEPTH" = some u ∧ RelV v u ∧ ∀ B, Rep K B v k_MOST_DEPTH
  c_MOST_COLUMNS : ∃ v u, mg "MOST_COLUMNS" = some u ∧ RelV v u ∧ ∀ B, Rep K B v k_MOST_COLUMNS
  c_MOST_ROWS : ∃ v u, mg "MOST_ROWS" = some u ∧ RelV v u ∧ ∀ B, Rep K B v k_MOST_ROWS
  c_LAST_DAY : ∃ v u, mg "LAST_DAY" = some u ∧ RelV v u ∧ ∀ B, Rep K B v k_LAST_DAY
section
variable {P : Program} {w : World} {K : PySem.W.Frag} {mg : Str → Option Value} {base : Heap}
theorem sc_is_whole : FnScope n_is_whole ["thing", "low", "high"] (defScope s_is_whole) := ⟨rfl, rfl, rfl, by decide +kernel, rfl, by decide +kernel, by decide +kernel⟩
theorem ok_is_whole (T : Txt K mg) : FnG P w K mg base 1 T.f_is_whole 3 (spM K mg 3 none m_is_whole) :=
  def_tr (n := 40) (mi := none) (tk := []) (gt := t_is_whole) T.F_is_whole sc_is_whole (by decide) (T.F_is_whole.binds (ps := ["thing", "low", "high"]) fun _ _ _ _ _ _ us hl => match us, hl with | [_, _, _], _ => rfl)
    (gt_cons T.z_isinstance (gt_cons T.z_int (gt_cons T.z_bool GtOk.nil))) (by kernel_rfl)
theorem sc_is_column : FnScope n_is_column ["thing", "rows"] (defScope s_is_column) := ⟨rfl, rfl, rfl, by decide +kernel, rfl, by decide +kernel, by decide +kernel⟩
theorem ok_is_column (T : Txt K mg) : FnG P w K mg base 2 T.f_is_column 2 (spM K mg 2 none m_is_column) :=
  def_tr (n := 40) (mi := none) (tk := []) (gt := t_is_column) T.F_is_column sc_is_column (by decide) (T.F_is_column.binds (ps := ["thing", "rows"]) fun _ _ _ _ _ _ us hl => match us, hl with | [_, _], _ => rfl)
    (gt_cons T.z_isinstance (gt_cons T.z_tuple (gt_cons T.z_len (gt_cons T.z_all (gt_cons ⟨(fun j e => by cases e), T.f_is_whole, (ok_is_whole T).mono (by decide), T.g_is_whole, T.F_is_whole.kp⟩ (gt_cons T.c_MOST_DEPTH GtOk.nil)))))) (by kernel_rfl)
theorem sc_is_sea : FnScope n_is_sea ["thing"] (defScope s_is_sea) := ⟨rfl, rfl, rfl, by decide +kernel, rfl, by decide +kernel, by decide +kernel⟩
theorem ok_is_sea (T : Txt K mg) : FnG P w K mg base 3 T.f_is_sea 1 (spM K mg 1 none m_is_sea) :=
  def_tr (n := 40) (mi := none) (tk := []) (gt := t_is_sea) T.F_is_sea sc_is_sea (by decide) (T.F_is_sea.binds (ps := ["thing"]) fun _ _ _ _ _ _ us hl => match us, hl with | [_], _ => rfl)
    (gt_cons T.z_isinstance (gt_cons T.z_tuple (gt_cons T.z_len (gt_cons T.c_MOST_COLUMNS (gt_cons T.c_MOST_ROWS (gt_cons T.z_all (gt_cons ⟨(fun j e => by cases e), T.f_is_column, (ok_is_column T).mono (by decide), T.g_is_column, T.F_is_column.kp⟩ GtOk.nil))))))) (by kernel_rfl)
theorem sc_need_sea : FnScope n_need_sea ["sea"] (defScope s_need_sea) := ⟨rfl, rfl, rfl, by decide +kernel, rfl, by decide +kernel, by decide +kernel⟩
theorem ok_need_sea (T : Txt K mg) : FnG P w K mg base 4 T.f_need_sea 1 (spM K mg 1 none m_need_sea) :=
  def_tr (n := 40) (mi := none) (tk := []) (gt := t_need_sea) T.F_need_sea sc_need_sea (by decide) (T.F_need_sea.binds (ps := ["sea"]) fun _ _ _ _ _ _ us hl => match us, hl with | [_], _ => rfl)
    (gt_cons ⟨(fun j e => by cases e), T.f_is_sea, (ok_is_sea T).mono (by decide), T.g_is_sea, T.F_is_sea.kp⟩ GtOk.nil) (by kernel_rfl)
theorem sc_is_cell : FnScope n_is_cell ["sea", "thing"] (defScope s_is_cell) := ⟨rfl, rfl, rfl, by decide +kernel, rfl, by decide +kernel, by decide +kernel⟩
theorem ok_is_cell (T : Txt K mg) : FnG P w K mg base 2 T.f_is_cell 2 (spM K mg 2 none m_is_cell) :=
  def_tr (n := 40) (mi := none) (tk := []) (gt := t_is_cell) T.F_is_cell sc_is_cell (by decide) (T.F_is_cell.binds (ps := ["sea", "thing"]) fun _ _ _ _ _ _ us hl => match us, hl with | [_, _], _ => rfl)
    (gt_cons T.z_isinstance (gt_cons T.z_tuple (gt_cons T.z_len (gt_cons ⟨(fun j e => by cases e), T.f_is_whole, (ok_is_whole T).mono (by decide), T.g_is_whole, T.F_is_whole.kp⟩ GtOk.nil)))) (by kernel_rfl)
theorem sc_need_cell : FnScope n_need_cell ["sea", "cell"] (defScope s_need_cell) := ⟨rfl, rfl, rfl, by decide +kernel, rfl, by decide +kernel, by decide +kernel⟩
theorem ok_need_cell (T : Txt K mg) : FnG P w K mg base 3 T.f_need_cell 2 (spM K mg 2 none m_need_cell) :=
  def_tr (n := 40) (mi := none) (tk := []) (gt := t_need_cell) T.F_need_cell sc_need_cell (by decide) (T.F_need_cell.binds (ps := ["sea", "cell"]) fun _ _ _ _ _ _ us hl => match us, hl with | [_, _], _ => rfl)
    (gt_cons ⟨(fun j e => by cases e), T.f_is_cell, (ok_is_cell T).mono (by decide), T.g_is_cell, T.F_is_cell.kp⟩ GtOk.nil) (by kernel_rfl)
theorem sc_need_day : FnScope n_need_day ["day"] (defScope s_need_day) := ⟨rfl, rfl, rfl, by decide +kernel, rfl, by decide +kernel, by decide +kernel⟩
theorem ok_need_day (T : Txt K mg) : FnG P w K mg base 2 T.f_need_day 1 (spM K mg 1 none m_need_day) :=
  def_tr (n := 40) (mi := none) (tk := []) (gt := t_need_day) T.F_need_day sc_need_day (by decide) (T.F_need_day.binds (ps := ["day"]) fun _ _ _ _ _ _ us hl => match us, hl with | [_], _ => rfl)
    (gt_cons ⟨(fun j e => by cases e), T.f_is_whole, (ok_is_whole T).mono (by decide), T.g_is_whole, T.F_is_whole.kp⟩ (gt_cons T.c_LAST_DAY GtOk.nil)) (by kernel_rfl)
theorem sc_depth_at : FnScope n_depth_at ["sea", "cell"] (defScope s_depth_at) := ⟨rfl, rfl, rfl, by decide +kernel, rfl, by decide +kernel, by decide +kernel⟩
theorem ok_depth_at (T : Txt K mg) : FnG P w K mg base 1 T.f_depth_at 2 (spM K mg 2 none m_depth_at) :=
  def_tr (n := 40) (mi := none) (tk := []) (gt := t_depth_at) T.F_depth_at sc_depth_at (by decide) (T.F_depth_at.binds (ps := ["sea", "cell"]) fun _ _ _ _ _ _ us hl => match us, hl with | [_, _], _ => rfl)
    GtOk.nil (by kernel_rfl)
theorem sc_waters_beside : FnScope n_waters_beside ["sea", "cell"] (defScope s_waters_beside) := ⟨rfl, rfl, rfl, by decide +kernel, rfl, by decide +kernel, by decide +kernel⟩
theorem ok_waters_beside (T : Txt K mg) : FnG P w K mg base 3 T.f_waters_beside 2 (spM K mg 2 none m_waters_beside) :=
  def_tr (n := 40) (mi := none) (tk := []) (gt := t_waters_beside) T.F_waters_beside sc_waters_beside (by decide) (T.F_waters_beside.binds (ps := ["sea", "cell"]) fun _ _ _ _ _ _ us hl => match us, hl with | [_, _], _ => rfl)
    (gt_cons ⟨(fun j e => by cases e), T.f_is_cell, (ok_is_cell T).mono (by decide), T.g_is_cell, T.F_is_cell.kp⟩ (gt_cons ⟨(fun j e => by cases e), T.f_depth_at, (ok_depth_at T).mono (by decide), T.g_depth_at, T.F_depth_at.kp⟩ GtOk.nil)) (by kernel_rfl)
theorem sc_drifted : FnScope n_drifted ["sea", "cell", "days"] (defScope s_drifted) := ⟨rfl, rfl, rfl, by decide +kernel, rfl, by decide +kernel, by decide +kernel⟩
theorem ok_drifted (T : Txt K mg) : FnG P w K mg base 4 T.f_drifted 3 (spM K mg 3 none m_drifted) :=
  def_tr (n := 40) (mi := none) (tk := [52]) (gt := t_drifted) T.F_drifted sc_drifted (by decide) (T.F_drifted.binds (ps := ["sea", "cell", "days"]) fun _ _ _ _ _ _ us hl => match us, hl with | [_, _, _], _ => rfl)
    (gt_cons ⟨(fun j e => by cases e), T.f_depth_at, (ok_depth_at T).mono (by decide), T.g_depth_at, T.F_depth_at.kp⟩ (gt_cons ⟨(fun j e => by cases e), T.f_waters_beside, (ok_waters_beside T).mono (by decide), T.g_waters_beside, T.F_waters_beside.kp⟩ (gt_cons T.z_list (gt_cons T.z_tuple (gt_cons T.z_sorted GtOk.nil))))) (by kernel_rfl)
theorem sc_drift : FnScope n_drift ["sea", "cell", "days"] (defScope s_drift) := ⟨rfl, rfl, rfl, by decide +kernel, rfl, by decide +kernel, by decide +kernel⟩
theorem ok_drift (T : Txt K mg) : FnG P w K mg base 5 T.f_drift 3 (spM K mg 3 none m_drift) :=
  def_tr (n := 40) (mi := none) (tk := []) (gt := t_drift) T.F_drift sc_drift (by decide) (T.F_drift.binds (ps := ["sea", "cell", "days"]) fun _ _ _ _ _ _ us hl => match us, hl with | [_, _, _], _ => rfl)
    (gt_cons ⟨(fun j e => by cases e), T.f_need_sea, (ok_need_sea T).mono (by decide), T.g_need_sea, T.F_need_sea.kp⟩ (gt_cons ⟨(fun j e => by cases e), T.f_need_cell, (ok_need_cell T).mono (by decide), T.g_need_cell, T.F_need_cell.kp⟩ (gt_cons ⟨(fun j e => by cases e), T.f_need_day, (ok_need_day T).mono (by decide), T.g_need_day, T.F_need_day.kp⟩ (gt_cons ⟨(fun j e => by cases e), T.f_drifted, (ok_drifted T).mono (by decide), T.g_drifted, T.F_drifted.kp⟩ GtOk.nil)))) (by kernel_rfl)
theorem sc__law_box : FnScope n__law_box ["_law_script", "_law_k"] (defScope s__law_box) := ⟨rfl, rfl, rfl, by decide +kernel, rfl, by decide +kernel, by decide +kernel⟩
theorem ok__law_box (T : Txt K mg) : FnG P w K mg base 1 T.f__law_box 2 (spM K mg 2 none m__law_box) :=
  def_tr (n := 40) (mi := none) (tk := []) (gt := t__law_box) T.F__law_box sc__law_box (by decide) (T.F__law_box.binds (ps := ["_law_script", "_law_k"]) fun _ _ _ _ _ _ us hl => match us, hl with | [_, _], _ => rfl)
    (gt_cons T.z_len (gt_cons T.z_abs (gt_cons T.z_range GtOk.nil))) (by kernel_rfl)
theorem sc__law_more : FnScope n__law_more ["_law_box_here"] (defScope s__law_more) := ⟨rfl, rfl, rfl, by decide +kernel, rfl, by decide +kernel, by decide +kernel⟩
theorem ok__law_more (T : Txt K mg) : FnG P w K mg base 1 T.f__law_more 1 (spM K mg 1 (some 0) m__law_more) :=
  def_tr (n := 40) (mi := (some 0)) (tk := []) (gt := t__law_more) T.F__law_more sc__law_more (by decide) (T.F__law_more.binds (ps := ["_law_box_here"]) fun _ _ _ _ _ _ us hl => match us, hl with | [_], _ => rfl)
    (gt_cons T.z_range GtOk.nil) (by kernel_rfl)
theorem sc__law_take : FnScope n__law_take ["_law_box_here", "_law_count"] (defScope s__law_take) := ⟨rfl, rfl, rfl, by decide +kernel, rfl, by decide +kernel, by decide +kernel⟩
theorem ok__law_take (T : Txt K mg) : FnG P w K mg base 2 T.f__law_take 2 (spM K mg 2 (some 0) m__law_take) :=
  def_tr (n := 40) (mi := (some 0)) (tk := []) (gt := t__law_take) T.F__law_take sc__law_take (by decide) (T.F__law_take.binds (ps := ["_law_box_here", "_law_count"]) fun _ _ _ _ _ _ us hl => match us, hl with | [_, _], _ => rfl)
    (gt_cons ⟨(fun j e => by cases e <;> decide), T.f__law_more, (ok__law_more T).mono (by decide), T.g__law_more, T.F__law_more.kp⟩ (gt_cons T.z_divmod GtOk.nil)) (by kernel_rfl)
theorem sc__law_sea : FnScope n__law_sea ["_law_box_here", "_law_wide", "_law_high"] (defScope s__law_sea) := ⟨rfl, rfl, rfl, by decide +kernel, rfl, by decide +kernel, by decide +kernel⟩
theorem ok__law_sea (T : Txt K mg) : FnG P w K mg base 3 T.f__law_sea 3 (spM K mg 3 (some 0) m__law_sea) :=
  def_tr (n := 40) (mi := (some 0)) (tk := []) (gt := t__law_sea) T.F__law_sea sc__law_sea (by decide) (T.F__law_sea.binds (ps := ["_law_box_here", "_law_wide", "_law_high"]) fun _ _ _ _ _ _ us hl => match us, hl with | [_, _, _], _ => rfl)
    (gt_cons ⟨(fun j e => by cases e <;> decide), T.f__law_take, (ok__law_take T).mono (by decide), T.g__law_take, T.F__law_take.kp⟩ (gt_cons T.z_range (gt_cons T.z_tuple GtOk.nil))) (by kernel_rfl)
theorem sc__law_cell_of : FnScope n__law_cell_of ["_law_box_here", "_law_sea_here"] (defScope s__law_cell_of) := ⟨rfl, rfl, rfl, by decide +kernel, rfl, by decide +kernel, by decide +kernel⟩
theorem ok__law_cell_of (T : Txt K mg) : FnG P w K mg base 3 T.f__law_cell_of 2 (spM K mg 2 (some 0) m__law_cell_of) :=
  def_tr (n := 40) (mi := (some 0)) (tk := []) (gt := t__law_cell_of) T.F__law_cell_of sc__law_cell_of (by decide) (T.F__law_cell_of.binds (ps := ["_law_box_here", "_law_sea_here"]) fun _ _ _ _ _ _ us hl => match us, hl with | [_, _], _ => rfl)
    (gt_cons ⟨(fun j e => by cases e <;> decide), T.f__law_take, (ok__law_take T).mono (by decide), T.g__law_take, T.F__law_take.kp⟩ (gt_cons T.z_len GtOk.nil)) (by kernel_rfl)
theorem sc__law_round : FnScope n__law_round ["_law_sea_here", "_law_cells"] (defScope s__law_round) := ⟨rfl, rfl, rfl, by decide +kernel, rfl, by decide +kernel, by decide +kernel⟩
theorem ok__law_round (T : Txt K mg) : FnG P w K mg base 1 T.f__law_round 2 (spM K mg 2 none m__law_round) :=
  def_tr (n := 40) (mi := none) (tk := []) (gt := t__law_round) T.F__law_round sc__law_round (by decide) (T.F__law_round.binds (ps := ["_law_sea_here", "_law_cells"]) fun _ _ _ _ _ _ us hl => match us, hl with | [_, _], _ => rfl)
    (gt_cons T.z_dict (gt_cons T.z_len (gt_cons T.z_sorted GtOk.nil))) (by kernel_rfl)
theorem sc__law_drift : FnScope n__law_drift ["_law_sea_here", "_law_cell", "_law_days"] (defScope s__law_drift) := ⟨rfl, rfl, rfl, by decide +kernel, rfl, by decide +kernel, by decide +kernel⟩
theorem ok__law_drift (T : Txt K mg) : FnG P w K mg base 2 T.f__law_drift 3 (spM K mg 3 none m__law_drift) :=
  def_tr (n := 40) (mi := none) (tk := []) (gt := t__law_drift) T.F__law_drift sc__law_drift (by decide) (T.F__law_drift.binds (ps := ["_law_sea_here", "_law_cell", "_law_days"]) fun _ _ _ _ _ _ us hl => match us, hl with | [_, _, _], _ => rfl)
    (gt_cons T.z_tuple (gt_cons T.z_range (gt_cons ⟨(fun j e => by cases e), T.f__law_round, (ok__law_round T).mono (by decide), T.g__law_round, T.F__law_round.kp⟩ GtOk.nil))) (by kernel_rfl)
theorem sc_law : FnScope n_law ["_law_script"] (defScope s_law) := ⟨rfl, rfl, rfl, by decide +kernel, rfl, by decide +kernel, by decide +kernel⟩
theorem ok_law (T : Txt K mg) : FnG P w K mg base 6 T.f_law 1 (spM K mg 1 none m_law) :=
  def_tr (n := 40) (mi := none) (tk := []) (gt := t_law) T.F_law sc_law (by decide) (T.F_law.binds (ps := ["_law_script"]) fun _ _ _ _ _ _ us hl => match us, hl with | [_], _ => rfl)
    (gt_cons T.z_range (gt_cons T.z_max (gt_cons T.z_min (gt_cons T.z_len (gt_cons ⟨(fun j e => by cases e), T.f__law_box, (ok__law_box T).mono (by decide), T.g__law_box, T.F__law_box.kp⟩ (gt_cons ⟨(fun j e => by cases e <;> decide), T.f__law_sea, (ok__law_sea T).mono (by decide), T.g__law_sea, T.F__law_sea.kp⟩ (gt_cons ⟨(fun j e => by cases e <;> decide), T.f__law_take, (ok__law_take T).mono (by decide), T.g__law_take, T.F__law_take.kp⟩ (gt_cons ⟨(fun j e => by cases e <;> decide), T.f__law_cell_of, (ok__law_cell_of T).mono (by decide), T.g__law_cell_of, T.F__law_cell_of.kp⟩ (gt_cons ⟨(fun j e => by cases e), T.f__law_drift, (ok__law_drift T).mono (by decide), T.g__law_drift, T.F__law_drift.kp⟩ (gt_cons T.z_repr (gt_cons ⟨(fun j e => by cases e), T.f_drift, (ok_drift T).mono (by decide), T.g_drift, T.F_drift.kp⟩ GtOk.nil))))))))))) (by kernel_rfl)
end
def mkT {K : PySem.W.Frag} {h : Heap} {mg : Str → Option Value} (X : K.In h) (G : h.Ns mainGlobals mg)
    {f0 : Addr} {oc0 kV0 dc0 pm0 cd0 ct0 : Value} {od0 an0 : Option Addr} {sl0 : Array (Option Value)}
    {f1 : Addr} {oc1 kV1 dc1 pm1 cd1 ct1 : Value} {od1 an1 : Option Addr} {sl1 : Array (Option Value)}
    {f2 : Addr} {oc2 kV2 dc2 pm2 cd2 ct2 : Value} {od2 an2 : Option Addr} {sl2 : Array (Option Value)}
    {f3 : Addr} {oc3 kV3 dc3 pm3 cd3 ct3 : Value} {od3 an3 : Option Addr} {sl3 : Array (Option Value)}
    {f4 : Addr} {oc4 kV4 dc4 pm4 cd4 ct4 : Value} {od4 an4 : Option Addr} {sl4 : Array (Option Value)}
    {f5 : Addr} {oc5 kV5 dc5 pm5 cd5 ct5 : Value} {od5 an5 : Option Addr} {sl5 : Array (Option Value)}
    {f6 : Addr} {oc6 kV6 dc6 pm6 cd6 ct6 : Value} {od6 an6 : Option Addr} {sl6 : Array (Option Value)}
    {f7 : Addr} {oc7 kV7 dc7 pm7 cd7 ct7 : Value} {od7 an7 : Option Addr} {sl7 : Array (Option Value)}
    {f8 : Addr} {oc8 kV8 dc8 pm8 cd8 ct8 : Value} {od8 an8 : Option Addr} {sl8 : Array (Option Value)}
    {f9 : Addr} {oc9 kV9 dc9 pm9 cd9 ct9 : Value} {od9 an9 : Option Addr} {sl9 : Array (Option Value)}
    {f10 : Addr} {oc10 kV10 dc10 pm10 cd10 ct10 : Value} {od10 an10 : Option Addr} {sl10 : Array (Option Value)}
    {f11 : Addr} {oc11 kV11 dc11 pm11 cd11 ct11 : Value} {od11 an11 : Option Addr} {sl11 : Array (Option Value)}
    {f12 : Addr} {oc12 kV12 dc12 pm12 cd12 ct12 : Value} {od12 an12 : Option Addr} {sl12 : Array (Option Value)}
    {f13 : Addr} {oc13 kV13 dc13 pm13 cd13 ct13 : Value} {od13 an13 : Option Addr} {sl13 : Array (Option Value)}
    {f14 : Addr} {oc14 kV14 dc14 pm14 cd14 ct14 : Value} {od14 an14 : Option Addr} {sl14 : Array (Option Value)}
    {f15 : Addr} {oc15 kV15 dc15 pm15 cd15 ct15 : Value} {od15 an15 : Option Addr} {sl15 : Array (Option Value)}
    {f16 : Addr} {oc16 kV16 dc16 pm16 cd16 ct16 : Value} {od16 an16 : Option Addr} {sl16 : Array (Option Value)}
    {f17 : Addr} {oc17 kV17 dc17 pm17 cd17 ct17 : Value} {od17 an17 : Option Addr} {sl17 : Array (Option Value)}
    {f18 : Addr} {oc18 kV18 dc18 pm18 cd18 ct18 : Value} {od18 an18 : Option Addr} {sl18 : Array (Option Value)}
    {tk_MOST_DEPTH : Tok}
    {tk_MOST_COLUMNS : Tok}
    {tk_MOST_ROWS : Tok}
    {tk_LAST_DAY : Tok}
    (a0 : PySem.W.nsIn K mainGlobals "is_whole" = some (some (.ref f0))) (l0 : K.lookup f0 = some ⟨oc0, od0, .func (PySem.W.fnOf "is_whole" "is_whole" (defArgs s_is_whole) (defBody s_is_whole) (defScope s_is_whole) .none kV0 dc0 pm0 an0 cd0 ct0), sl0⟩) (c0 : PySem.W.codeIn K cd0 "is_whole" = true) (k0 : PySem.W.keepIn K (.ref f0) = true)
    (a1 : PySem.W.nsIn K mainGlobals "is_column" = some (some (.ref f1))) (l1 : K.lookup f1 = some ⟨oc1, od1, .func (PySem.W.fnOf "is_column" "is_column" (defArgs s_is_column) (defBody s_is_column) (defScope s_is_column) .none kV1 dc1 pm1 an1 cd1 ct1), sl1⟩) (c1 : PySem.W.codeIn K cd1 "is_column" = true) (k1 : PySem.W.keepIn K (.ref f1) = true)
    (a2 : PySem.W.nsIn K mainGlobals "is_sea" = some (some (.ref f2))) (l2 : K.lookup f2 = some ⟨oc2, od2, .func (PySem.W.fnOf "is_sea" "is_sea" (defArgs s_is_sea) (defBody s_is_sea) (defScope s_is_sea) .none kV2 dc2 pm2 an2 cd2 ct2), sl2⟩) (c2 : PySem.W.codeIn K cd2 "is_sea" = true) (k2 : PySem.W.keepIn K (.ref f2) = true)
    (a3 : PySem.W.nsIn K mainGlobals "need_sea" = some (some (.ref f3))) (l3 : K.lookup f3 = some ⟨oc3, od3, .func (PySem.W.fnOf "need_sea" "need_sea" (defArgs s_need_sea) (defBody s_need_sea) (defScope s_need_sea) .none kV3 dc3 pm3 an3 cd3 ct3), sl3⟩) (c3 : PySem.W.codeIn K cd3 "need_sea" = true) (k3 : PySem.W.keepIn K (.ref f3) = true)
    (a4 : PySem.W.nsIn K mainGlobals "is_cell" = some (some (.ref f4))) (l4 : K.lookup f4 = some ⟨oc4, od4, .func (PySem.W.fnOf "is_cell" "is_cell" (defArgs s_is_cell) (defBody s_is_cell) (defScope s_is_cell) .none kV4 dc4 pm4 an4 cd4 ct4), sl4⟩) (c4 : PySem.W.codeIn K cd4 "is_cell" = true) (k4 : PySem.W.keepIn K (.ref f4) = true)
    (a5 : PySem.W.nsIn K mainGlobals "need_cell" = some (some (.ref f5))) (l5 : K.lookup f5 = some ⟨oc5, od5, .func (PySem.W.fnOf "need_cell" "need_cell" (defArgs s_need_cell) (defBody s_need_cell) (defScope s_need_cell) .none kV5 dc5 pm5 an5 cd5 ct5), sl5⟩) (c5 : PySem.W.codeIn K cd5 "need_cell" = true) (k5 : PySem.W.keepIn K (.ref f5) = true)
    (a6 : PySem.W.nsIn K mainGlobals "need_day" = some (some (.ref f6))) (l6 : K.lookup f6 = some ⟨oc6, od6, .func (PySem.W.fnOf "need_day" "need_day" (defArgs s_need_day) (defBody s_need_day) (defScope s_need_day) .none kV6 dc6 pm6 an6 cd6 ct6), sl6⟩) (c6 : PySem.W.codeIn K cd6 "need_day" = true) (k6 : PySem.W.keepIn K (.ref f6) = true)
    (a7 : PySem.W.nsIn K mainGlobals "depth_at" = some (some (.ref f7))) (l7 : K.lookup f7 = some ⟨oc7, od7, .func (PySem.W.fnOf "depth_at" "depth_at" (defArgs s_depth_at) (defBody s_depth_at) (defScope s_depth_at) .none kV7 dc7 pm7 an7 cd7 ct7), sl7⟩) (c7 : PySem.W.codeIn K cd7 "depth_at" = true) (k7 : PySem.W.keepIn K (.ref f7) = true)
    (a8 : PySem.W.nsIn K mainGlobals "waters_beside" = some (some (.ref f8))) (l8 : K.lookup f8 = some ⟨oc8, od8, .func (PySem.W.fnOf "waters_beside" "waters_beside" (defArgs s_waters_beside) (defBody s_waters_beside) (defScope s_waters_beside) .none kV8 dc8 pm8 an8 cd8 ct8), sl8⟩) (c8 : PySem.W.codeIn K cd8 "waters_beside" = true) (k8 : PySem.W.keepIn K (.ref f8) = true)
    (a9 : PySem.W.nsIn K mainGlobals "drifted" = some (some (.ref f9))) (l9 : K.lookup f9 = some ⟨oc9, od9, .func (PySem.W.fnOf "drifted" "drifted" (defArgs s_drifted) (defBody s_drifted) (defScope s_drifted) .none kV9 dc9 pm9 an9 cd9 ct9), sl9⟩) (c9 : PySem.W.codeIn K cd9 "drifted" = true) (k9 : PySem.W.keepIn K (.ref f9) = true)
    (a10 : PySem.W.nsIn K mainGlobals "drift" = some (some (.ref f10))) (l10 : K.lookup f10 = some ⟨oc10, od10, .func (PySem.W.fnOf "drift" "drift" (defArgs s_drift) (defBody s_drift) (defScope s_drift) .none kV10 dc10 pm10 an10 cd10 ct10), sl10⟩) (c10 : PySem.W.codeIn K cd10 "drift" = true) (k10 : PySem.W.keepIn K (.ref f10) = true)
    (a11 : PySem.W.nsIn K mainGlobals "_law_box" = some (some (.ref f11))) (l11 : K.lookup f11 = some ⟨oc11, od11, .func (PySem.W.fnOf "_law_box" "_law_box" (defArgs s__law_box) (defBody s__law_box) (defScope s__law_box) .none kV11 dc11 pm11 an11 cd11 ct11), sl11⟩) (c11 : PySem.W.codeIn K cd11 "_law_box" = true) (k11 : PySem.W.keepIn K (.ref f11) = true)
    (a12 : PySem.W.nsIn K mainGlobals "_law_more" = some (some (.ref f12))) (l12 : K.lookup f12 = some ⟨oc12, od12, .func (PySem.W.fnOf "_law_more" "_law_more" (defArgs s__law_more) (defBody s__law_more) (defScope s__law_more) .none kV12 dc12 pm12 an12 cd12 ct12), sl12⟩) (c12 : PySem.W.codeIn K cd12 "_law_more" = true) (k12 : PySem.W.keepIn K (.ref f12) = true)
    (a13 : PySem.W.nsIn K mainGlobals "_law_take" = some (some (.ref f13))) (l13 : K.lookup f13 = some ⟨oc13, od13, .func (PySem.W.fnOf "_law_take" "_law_take" (defArgs s__law_take) (defBody s__law_take) (defScope s__law_take) .none kV13 dc13 pm13 an13 cd13 ct13), sl13⟩) (c13 : PySem.W.codeIn K cd13 "_law_take" = true) (k13 : PySem.W.keepIn K (.ref f13) = true)
    (a14 : PySem.W.nsIn K mainGlobals "_law_sea" = some (some (.ref f14))) (l14 : K.lookup f14 = some ⟨oc14, od14, .func (PySem.W.fnOf "_law_sea" "_law_sea" (defArgs s__law_sea) (defBody s__law_sea) (defScope s__law_sea) .none kV14 dc14 pm14 an14 cd14 ct14), sl14⟩) (c14 : PySem.W.codeIn K cd14 "_law_sea" = true) (k14 : PySem.W.keepIn K (.ref f14) = true)
    (a15 : PySem.W.nsIn K mainGlobals "_law_cell_of" = some (some (.ref f15))) (l15 : K.lookup f15 = some ⟨oc15, od15, .func (PySem.W.fnOf "_law_cell_of" "_law_cell_of" (defArgs s__law_cell_of) (defBody s__law_cell_of) (defScope s__law_cell_of) .none kV15 dc15 pm15 an15 cd15 ct15), sl15⟩) (c15 : PySem.W.codeIn K cd15 "_law_cell_of" = true) (k15 : PySem.W.keepIn K (.ref f15) = true)
    (a16 : PySem.W.nsIn K mainGlobals "_law_round" = some (some (.ref f16))) (l16 : K.lookup f16 = some ⟨oc16, od16, .func (PySem.W.fnOf "_law_round" "_law_round" (defArgs s__law_round) (defBody s__law_round) (defScope s__law_round) .none kV16 dc16 pm16 an16 cd16 ct16), sl16⟩) (c16 : PySem.W.codeIn K cd16 "_law_round" = true) (k16 : PySem.W.keepIn K (.ref f16) = true)
    (a17 : PySem.W.nsIn K mainGlobals "_law_drift" = some (some (.ref f17))) (l17 : K.lookup f17 = some ⟨oc17, od17, .func (PySem.W.fnOf "_law_drift" "_law_drift" (defArgs s__law_drift) (defBody s__law_drift) (defScope s__law_drift) .none kV17 dc17 pm17 an17 cd17 ct17), sl17⟩) (c17 : PySem.W.codeIn K cd17 "_law_drift" = true) (k17 : PySem.W.keepIn K (.ref f17) = true)
    (a18 : PySem.W.nsIn K mainGlobals "law" = some (some (.ref f18))) (l18 : K.lookup f18 = some ⟨oc18, od18, .func (PySem.W.fnOf "law" "law" (defArgs s_law) (defBody s_law) (defScope s_law) .none kV18 dc18 pm18 an18 cd18 ct18), sl18⟩) (c18 : PySem.W.codeIn K cd18 "law" = true) (k18 : PySem.W.keepIn K (.ref f18) = true)
    (z_isinstance : PySem.W.nsIn K mainGlobals "isinstance" = some none)
    (z_int : PySem.W.nsIn K mainGlobals "int" = some none)
    (z_bool : PySem.W.nsIn K mainGlobals "bool" = some none)
    (z_tuple : PySem.W.nsIn K mainGlobals "tuple" = some none)
    (z_len : PySem.W.nsIn K mainGlobals "len" = some none)
    (z_all : PySem.W.nsIn K mainGlobals "all" = some none)
    (z_list : PySem.W.nsIn K mainGlobals "list" = some none)
    (z_sorted : PySem.W.nsIn K mainGlobals "sorted" = some none)
    (z_abs : PySem.W.nsIn K mainGlobals "abs" = some none)
    (z_range : PySem.W.nsIn K mainGlobals "range" = some none)
    (z_divmod : PySem.W.nsIn K mainGlobals "divmod" = some none)
    (z_dict : PySem.W.nsIn K mainGlobals "dict" = some none)
    (z_max : PySem.W.nsIn K mainGlobals "max" = some none)
    (z_min : PySem.W.nsIn K mainGlobals "min" = some none)
    (z_repr : PySem.W.nsIn K mainGlobals "repr" = some none)
    (v_MOST_DEPTH : PySem.W.nsIn K mainGlobals "MOST_DEPTH" = some (some (.int 9 tk_MOST_DEPTH)))
    (v_MOST_COLUMNS : PySem.W.nsIn K mainGlobals "MOST_COLUMNS" = some (some (.int 16 tk_MOST_COLUMNS)))
    (v_MOST_ROWS : PySem.W.nsIn K mainGlobals "MOST_ROWS" = some (some (.int 9 tk_MOST_ROWS)))
    (v_LAST_DAY : PySem.W.nsIn K mainGlobals "LAST_DAY" = some (some (.int 400 tk_LAST_DAY))) : Txt K mg where
    f_is_whole := f0
    d_is_whole := _
    F_is_whole := fun_mk (st := s_is_whole) l0 c0 k0
    g_is_whole := PySem.W.mg_of X G a0
    f_is_column := f1
    d_is_column := _
    F_is_column := fun_mk (st := s_is_column) l1 c1 k1
    g_is_column := PySem.W.mg_of X G a1
    f_is_sea := f2
    d_is_sea := _
    F_is_sea := fun_mk (st := s_is_sea) l2 c2 k2
    g_is_sea := PySem.W.mg_of X G a2
    f_need_sea := f3
    d_need_sea := _
    F_need_sea := fun_mk (st := s_need_sea) l3 c3 k3
    g_need_sea := PySem.W.mg_of X G a3
    f_is_cell := f4
    d_is_cell := _
    F_is_cell := fun_mk (st := s_is_cell) l4 c4 k4
    g_is_cell := PySem.W.mg_of X G a4
    f_need_cell := f5
    d_need_cell := _
    F_need_cell := fun_mk (st := s_need_cell) l5 c5 k5
    g_need_cell := PySem.W.mg_of X G a5
    f_need_day := f6
    d_need_day := _
    F_need_day := fun_mk (st := s_need_day) l6 c6 k6
    g_need_day := PySem.W.mg_of X G a6
    f_depth_at := f7
    d_depth_at := _
    F_depth_at := fun_mk (st := s_depth_at) l7 c7 k7
    g_depth_at := PySem.W.mg_of X G a7
    f_waters_beside := f8
    d_waters_beside := _
    F_waters_beside := fun_mk (st := s_waters_beside) l8 c8 k8
    g_waters_beside := PySem.W.mg_of X G a8
    f_drifted := f9
    d_drifted := _
    F_drifted := fun_mk (st := s_drifted) l9 c9 k9
    g_drifted := PySem.W.mg_of X G a9
    f_drift := f10
    d_drift := _
    F_drift := fun_mk (st := s_drift) l10 c10 k10
    g_drift := PySem.W.mg_of X G a10
    f__law_box := f11
    d__law_box := _
    F__law_box := fun_mk (st := s__law_box) l11 c11 k11
    g__law_box := PySem.W.mg_of X G a11
    f__law_more := f12
    d__law_more := _
    F__law_more := fun_mk (st := s__law_more) l12 c12 k12
    g__law_more := PySem.W.mg_of X G a12
    f__law_take := f13
    d__law_take := _
    F__law_take := fun_mk (st := s__law_take) l13 c13 k13
    g__law_take := PySem.W.mg_of X G a13
    f__law_sea := f14
    d__law_sea := _
    F__law_sea := fun_mk (st := s__law_sea) l14 c14 k14
    g__law_sea := PySem.W.mg_of X G a14
    f__law_cell_of := f15
    d__law_cell_of := _
    F__law_cell_of := fun_mk (st := s__law_cell_of) l15 c15 k15
    g__law_cell_of := PySem.W.mg_of X G a15
    f__law_round := f16
    d__law_round := _
    F__law_round := fun_mk (st := s__law_round) l16 c16 k16
    g__law_round := PySem.W.mg_of X G a16
    f__law_drift := f17
    d__law_drift := _
    F__law_drift := fun_mk (st := s__law_drift) l17 c17 k17
    g__law_drift := PySem.W.mg_of X G a17
    f_law := f18
    d_law := _
    F_law := fun_mk (st := s_law) l18 c18 k18
    g_law := PySem.W.mg_of X G a18
    z_isinstance := PySem.W.mg_none_of X G z_isinstance
    z_int := PySem.W.mg_none_of X G z_int
    z_bool := PySem.W.mg_none_of X G z_bool
    z_tuple := PySem.W.mg_none_of X G z_tuple
    z_len := PySem.W.mg_none_of X G z_len
    z_all := PySem.W.mg_none_of X G z_all
    z_list := PySem.W.mg_none_of X G z_list
    z_sorted := PySem.W.mg_none_of X G z_sorted
    z_abs := PySem.W.mg_none_of X G z_abs
    z_range := PySem.W.mg_none_of X G z_range
    z_divmod := PySem.W.mg_none_of X G z_divmod
    z_dict := PySem.W.mg_none_of X G z_dict
    z_max := PySem.W.mg_none_of X G z_max
    z_min := PySem.W.mg_none_of X G z_min
    z_repr := PySem.W.mg_none_of X G z_repr
    c_MOST_DEPTH := ⟨.int 9, _, PySem.W.mg_of X G v_MOST_DEPTH, ⟨_, rfl⟩, fun B => .int _⟩
    c_MOST_COLUMNS := ⟨.int 16, _, PySem.W.mg_of X G v_MOST_COLUMNS, ⟨_, rfl⟩, fun B => .int _⟩
    c_MOST_ROWS := ⟨.int 9, _, PySem.W.mg_of X G v_MOST_ROWS, ⟨_, rfl⟩, fun B => .int _⟩
    c_LAST_DAY := ⟨.int 400, _, PySem.W.mg_of X G v_LAST_DAY, ⟨_, rfl⟩, fun B => .int _⟩
theorem fin {P : Program} {w : World} {K : PySem.W.Frag} {mg : Str → Option Value} {base : Heap} {fa : Addr} (hmg : mg "law" = some (.ref fa)) (T : Txt K mg) : FnG P w K mg base 6 fa 1 (spM K mg 1 none m_law) := by
  have z := hmg.symm.trans T.g_law
  cases z
  exact ok_law T
end LW

end
section
set_option maxRecDepth 100000
set_option maxHeartbeats 4000000
/-! law_k02_drift: typed functions of the defs, printed by gen2.py -/
namespace LW
open PySem PySem.Spec PyProof.Rows L2 DL
abbrev rs_is_whole : RS Bool := ⟨.s, D.bl, none, (fun _ => .non)⟩
def y_is_whole (thing_1 : Int) (low_2 : Int) (high_3 : Int) : O Bool := finR (σ := Unit) (κ := Unit)
    (.ok (.rt (true && ((!false) && (decide (low_2 ≤ thing_1) && (decide (thing_1 ≤ high_3)))))))
theorem r_is_whole (thing_1 : Int) (low_2 : Int) (high_3 : Int) : RFk rs_is_whole (m_is_whole [D.int thing_1, D.int low_2, D.int high_3]) (y_is_whole thing_1 low_2 high_3) := by
  unfold m_is_whole y_is_whole b_is_whole
  refine x_def (fr := [.s (D.int thing_1), .s (D.int low_2), .s (D.int high_3)]) (F := (fun _ => [.any, .any, .any])) (G := fun _ => []) (show Fits _ [some (.sh (D.int thing_1)), some (.sh (D.int low_2)), some (.sh (D.int high_3))] from (.cons rfl (.cons rfl (.cons rfl .nil)))) ?_ rfl (.inl rfl)
  apply xs_last
  · apply xs_retP (r := (true && ((!false) && (decide (low_2 ≤ thing_1) && (decide (thing_1 ≤ high_3))))))
    · apply xe_andP (fr' := [.s (D.int thing_1), .s (D.int low_2), .s (D.int high_3)])
      · exact xe_n (xj_b rfl (xj_nil (x_get rfl (x_go (go_s (a := true) (en := D.bl) rfl)))))
      · apply xe_castL
        · apply xe_andP (fr' := [.s (D.int thing_1), .s (D.int low_2), .s (D.int high_3)])
          · exact xe_notP (b := false) (xe_n (xj_b rfl (xj_nil (x_get rfl (x_go (go_s (a := false) (en := D.bl) rfl)))))) rfl
          · apply xe_castL
            · exact xe_ch (xj_b rfl (xj_b rfl (xj_nil (x_get rfl (x_get rfl (x_kCh (xj_b rfl (xj_nil (x_get rfl x_kCh2)))))))))
            · exact rfl
            · exact fle_c .r (fle_c .r (fle_c .r fle_nil))
          · exact fle_c .r (fle_c .r (fle_c .r fle_nil))
        · exact rfl
        · exact fle_c .r (fle_c .r (fle_c .r fle_nil))
      · exact fle_c .r (fle_c .r (fle_c .r fle_nil))
    · exact rfl
    · exact .inl rfl
    · exact rfl
abbrev rs_is_column : RS Bool := ⟨.s, D.bl, none, (fun _ => .non)⟩
def y_is_column (thing_1 : (List Int)) (rows_2 : Int) : O Bool := finR (σ := Unit) (κ := Unit)
    (if ((!true) || (!((thing_1.length : Int) == rows_2))) then (.ok (.rt false))
    else (bnd (bnd (compO thing_1 (fun x_4 => (.ok true)) (fun x_4 => (bnd (y_is_whole x_4 (0 : Int) (9 : Int)) fun a_6 => .ok a_6))) fun a_8 =>
      (.ok (a_8.all id))) fun a_9 => .ok (.rt a_9)))
theorem r_is_column (thing_1 : (List Int)) (rows_2 : Int) : RFk rs_is_column (m_is_column [(eT D.int) thing_1, D.int rows_2]) (y_is_column thing_1 rows_2) := by
  unfold m_is_column y_is_column b_is_column
  refine x_def (fr := [.s ((eT D.int) thing_1), .s (D.int rows_2), .any]) (F := (fun _ => [.any, .any, .any])) (G := fun _ => []) (show Fits _ [some (.sh ((eT D.int) thing_1)), some (.sh (D.int rows_2)), none] from (.cons rfl (.cons rfl (.cons trivial .nil)))) ?_ rfl (.inl rfl)
  apply xs_ifd
  · apply xs_if
    · apply xt_or (fr' := [.s ((eT D.int) thing_1), .s (D.int rows_2), .any])
      · exact xt_notP (xt_val (xj_p (xe_n (xj_b rfl (xj_nil (x_get rfl (x_go (go_s (a := true) (en := D.bl) rfl)))))) (xj_nil (x_kTv (a := true) (b := id) rfl))))
      · apply xt_toP
        · apply xt_b1 (b := id)
          · exact xe_n (xj_p (xe_n (xj_b rfl (xj_nil (x_get rfl (x_go go_lenT))))) (xj_b rfl (xj_nil (x_get rfl (x_go go_nei)))))
          · exact fun _ => rfl
        · exact fle_c .r (fle_c .r (fle_c .r fle_nil))
      · exact fle_c .r (fle_c .r (fle_c .r fle_nil))
    · exact xs_retP (r := false) (xe_c (a := false) (en := D.bl) rfl) rfl (.inl rfl) rfl
    · apply xs_pass
      · apply xs_last
        · apply xs_ret (r := fun (a_9 : Bool) => a_9)
          · apply xe_n
            · apply xj_e
              · apply xe_compO (t1 := .ok thing_1) (xs := fun (a_3 : (List Int)) => a_3) (p := (fun _ (x_4 : Int) => (.ok true))) (f := (fun _ (x_4 : Int) => (bnd (y_is_whole x_4 (0 : Int) (9 : Int)) fun a_6 => .ok a_6))) (enα := D.int) (enβ := D.bl) (fc := [.s ((eT D.int) thing_1), .s (D.int rows_2), .any]) (Fb := (fun (x_4 : Int) => [.s ((eT D.int) thing_1), .s (D.int rows_2), .s (D.int x_4)])) (Fb' := (fun (x_4 : Int) => [.s ((eT D.int) thing_1), .s (D.int rows_2), .s (D.int x_4)])) (fr' := [.s ((eT D.int) thing_1), .s (D.int rows_2), .any])
                · apply xi_v
                  · exact xe_s (a := thing_1) (en := (eT D.int)) rfl
                  · exact fun _ => rfl
                · exact fun _ => rfl
                · exact fun a_3 => (fle_c .r (fle_c .r (fle_c .r fle_nil)))
                · exact fun x_4 => tg_n rfl
                · intro _ x_4
                  apply xt_toP
                  · exact xt_yes
                  · exact fle_c .r (fle_c .r (fle_c .r fle_nil))
                · intro _ x_4
                  apply xe_map (k := fun (a_6 : Bool) => a_6) (en' := D.bl) (F := (fun (a_7 : Bool) => [.s ((eT D.int) thing_1), .s (D.int rows_2), .s (D.int x_4)]))
                  · exact xe_ca (xj_p (xe_s (a := x_4) (en := D.int) rfl) (xj_p (xe_c (a := (0 : Int)) (en := D.int) rfl) (xj_p (xe_c (a := (9 : Int)) (en := D.int) rfl) (xj_nil (x_ca (rs := rs_is_whole) (r_is_whole x_4 (0 : Int) (9 : Int)) rfl)))))
                  · exact fun _ => rfl
                  · exact fun a_6 => (fle_c .r (fle_c .r (fle_c .r fle_nil)))
                · exact fun _ => rfl
                · exact fun _ => (fle_c .r (fle_c .r (fle_c .r fle_nil)))
                · exact rfl
                · exact fun _ => fle_r
              · intro a_8
                exact xj_nil (x_go go_all)
          · exact fun _ => rfl
          · exact .inl rfl
          · exact fun _ => rfl
abbrev rs_is_sea : RS Bool := ⟨.s, D.bl, none, (fun _ => .non)⟩
def y_is_sea (thing_1 : (List (List Int))) : O Bool := finR (σ := Unit) (κ := Unit)
    (if ((!true) || (!(decide ((2 : Int) ≤ (thing_1.length : Int)) && (decide ((thing_1.length : Int) ≤ (16 : Int)))))) then (.ok (.rt false))
    else (bnd (bnd (bnd (bnd (ixO thing_1 (0 : Int)) fun a_2 =>
      (.ok true)) fun a_3 =>
      (.ok a_3)) fun a_4 => if (!a_4) then .ok true else (bnd (bnd (bnd (ixO thing_1 (0 : Int)) fun a_5 =>
      (.ok (a_5.length : Int))) fun a_6 =>
      (.ok (decide ((1 : Int) ≤ a_6) && (decide (a_6 ≤ (9 : Int)))))) fun a_8 => .ok (!a_8))) fun a_10 =>
    if a_10 then (.ok (.rt false))
    else (bnd (bnd (compO thing_1 (fun x_12 => (.ok true)) (fun x_12 => (bnd (bnd (bnd (ixO thing_1 (0 : Int)) fun a_16 =>
      (.ok (a_16.length : Int))) fun a_17 =>
      (y_is_column x_12 a_17)) fun a_18 => .ok a_18))) fun a_20 =>
      (.ok (a_20.all id))) fun a_21 => .ok (.rt a_21))))
theorem r_is_sea (thing_1 : (List (List Int))) : RFk rs_is_sea (m_is_sea [(eT (eT D.int)) thing_1]) (y_is_sea thing_1) := by
  unfold m_is_sea y_is_sea b_is_sea
  refine x_def (fr := [.s ((eT (eT D.int)) thing_1), .any]) (F := (fun _ => [.any, .any])) (G := fun _ => []) (show Fits _ [some (.sh ((eT (eT D.int)) thing_1)), none] from (.cons rfl (.cons trivial .nil))) ?_ rfl (.inl rfl)
  apply xs_ifd
  · apply xs_if
    · apply xt_or (fr' := [.s ((eT (eT D.int)) thing_1), .any])
      · exact xt_notP (xt_val (xj_p (xe_n (xj_b rfl (xj_nil (x_get rfl (x_go (go_s (a := true) (en := D.bl) rfl)))))) (xj_nil (x_kTv (a := true) (b := id) rfl))))
      · apply xt_toP
        · apply xt_notP
          · apply xt_b1 (b := id)
            · exact xe_ch (xj_p (xe_c (a := (2 : Int)) (en := D.int) rfl) (xj_p (xe_n (xj_b rfl (xj_nil (x_get rfl (x_go go_lenT))))) (xj_nil (x_kCh (xj_p (xe_c (a := (16 : Int)) (en := D.int) rfl) (xj_nil x_kCh2))))))
            · exact fun _ => rfl
        · exact fle_c .r (fle_c .r fle_nil)
      · exact fle_c .r (fle_c .r fle_nil)
    · exact xs_retP (r := false) (xe_c (a := false) (en := D.bl) rfl) rfl (.inl rfl) rfl
    · apply xs_pass
      · apply xs_ifd
        · apply xs_ifE
          · apply xt_orG (r := fun (a_4 : Bool) => true)
            · apply xt_not
              · apply xt_val
                · apply xj_e
                  · apply xe_n
                    · apply xj_e
                      · exact xe_n (xj_b rfl (xj_p (xe_c (a := (0 : Int)) (en := D.int) rfl) (xj_nil (x_get rfl (x_go go_ixT)))))
                      · intro a_2
                        exact xj_nil (x_go (go_s (a := true) (en := D.bl) rfl))
                  · intro a_3
                    exact xj_nil (x_kTv (a := a_3) (b := id) rfl)
            · intro a_4
              apply xt_map (k := fun (a_8 : Bool) => (!a_8)) (b' := id) (F := (fun (a_9 : Bool) => [.s ((eT (eT D.int)) thing_1), .any]))
              · apply xt_not
                · apply xt_b1
                  · apply xe_ch
                    · apply xj_p
                      · exact xe_c (a := (1 : Int)) (en := D.int) rfl
                      · apply xj_e
                        · apply xe_n
                          · apply xj_e
                            · exact xe_n (xj_b rfl (xj_p (xe_c (a := (0 : Int)) (en := D.int) rfl) (xj_nil (x_get rfl (x_go go_ixT)))))
                            · intro a_5
                              exact xj_nil (x_go go_lenT)
                        · intro a_6
                          exact xj_nil (x_kCh (xj_p (xe_c (a := (9 : Int)) (en := D.int) rfl) (xj_nil x_kCh2)))
                  · exact fun _ => rfl
              · exact fun _ => rfl
              · exact fun a_8 => (fle_c .r (fle_c .r fle_nil))
            · exact fun _ => rfl
            · exact fun a_4 => (fle_c .r (fle_c .r fle_nil))
          · intro a_10
            exact xs_retP (r := false) (xe_c (a := false) (en := D.bl) rfl) rfl (.inl rfl) rfl
          · intro a_10
            apply xs_pass
            · apply xs_last
              · apply xs_ret (r := fun (a_21 : Bool) => a_21)
                · apply xe_n
                  · apply xj_e
                    · apply xe_compO (t1 := .ok thing_1) (xs := fun (a_11 : (List (List Int))) => a_11) (p := (fun _ (x_12 : (List Int)) => (.ok true))) (f := (fun _ (x_12 : (List Int)) => (bnd (bnd (bnd (ixO thing_1 (0 : Int)) fun a_16 =>
      (.ok (a_16.length : Int))) fun a_17 =>
      (y_is_column x_12 a_17)) fun a_18 => .ok a_18))) (enα := (eT D.int)) (enβ := D.bl) (fc := [.s ((eT (eT D.int)) thing_1), .any]) (Fb := (fun (x_12 : (List Int)) => [.s ((eT (eT D.int)) thing_1), .s ((eT D.int) x_12)])) (Fb' := (fun (x_12 : (List Int)) => [.s ((eT (eT D.int)) thing_1), .s ((eT D.int) x_12)])) (fr' := [.s ((eT (eT D.int)) thing_1), .any])
                      · apply xi_v
                        · exact xe_s (a := thing_1) (en := (eT (eT D.int))) rfl
                        · exact fun _ => rfl
                      · exact fun _ => rfl
                      · exact fun a_11 => (fle_c .r (fle_c .r fle_nil))
                      · exact fun x_12 => tg_n rfl
                      · intro _ x_12
                        apply xt_toP
                        · exact xt_yes
                        · exact fle_c .r (fle_c .r fle_nil)
                      · intro _ x_12
                        apply xe_map (k := fun (a_18 : Bool) => a_18) (en' := D.bl) (F := (fun (a_19 : Bool) => [.s ((eT (eT D.int)) thing_1), .s ((eT D.int) x_12)]))
                        · apply xe_ca
                          · apply xj_p
                            · exact xe_s (a := x_12) (en := (eT D.int)) rfl
                            · apply xj_e
                              · apply xe_n
                                · apply xj_e
                                  · exact xe_n (xj_b rfl (xj_p (xe_c (a := (0 : Int)) (en := D.int) rfl) (xj_nil (x_get rfl (x_go go_ixT)))))
                                  · intro a_16
                                    exact xj_nil (x_go go_lenT)
                              · intro a_17
                                exact xj_nil (x_ca (rs := rs_is_column) (r_is_column x_12 a_17) rfl)
                        · exact fun _ => rfl
                        · exact fun a_18 => (fle_c .r (fle_c .r fle_nil))
                      · exact fun _ => rfl
                      · exact fun _ => (fle_c .r (fle_c .r fle_nil))
                      · exact rfl
                      · exact fun _ => fle_r
                    · intro a_20
                      exact xj_nil (x_go go_all)
                · exact fun _ => rfl
                · exact .inl rfl
                · exact fun _ => rfl
abbrev rs_need_sea : RS Unit := ⟨.s, eU, none, (fun _ => .non)⟩
def y_need_sea (sea_1 : (List (List Int))) : O Unit := finN (σ := Unit) (κ := Unit)
    (bnd (bnd (y_is_sea sea_1) fun a_2 =>
      (.ok a_2)) fun a_3 =>
    if (!a_3) then .bad
    else (.ok (.nx ()))) (fun _ => ())
theorem r_need_sea (sea_1 : (List (List Int))) : RFk rs_need_sea (m_need_sea [(eT (eT D.int)) sea_1]) (y_need_sea sea_1) := by
  unfold m_need_sea y_need_sea b_need_sea
  refine x_defN (fr := [.s ((eT (eT D.int)) sea_1)]) (F := (fun _ => [.any])) (G := fun _ => []) (show Fits _ [some (.sh ((eT (eT D.int)) sea_1))] from (.cons rfl .nil)) ?_ rfl (.inl rfl) (fun _ => rfl) (fun _ => rfl) (show Tk.s ≠ Tk.o from nofun)
  apply xs_last
  · apply xs_ifd
    · apply xs_ifE
      · apply xt_not
        · apply xt_val
          · apply xj_e
            · exact xe_ca (xj_p (xe_s (a := sea_1) (en := (eT (eT D.int))) rfl) (xj_nil (x_ca (rs := rs_is_sea) (r_is_sea sea_1) rfl)))
            · intro a_2
              exact xj_nil (x_kTv (a := a_2) (b := id) rfl)
      · intro a_3
        exact xs_bad
      · intro a_3
        apply xs_pass
        · apply xs_nx (s := ())
          · exact fle_c .sa fle_nil
abbrev rs_is_cell : RS Bool := ⟨.s, D.bl, none, (fun _ => .non)⟩
def y_is_cell (sea_1 : (List (List Int))) (thing_2 : (Int × Int)) : O Bool := finR (σ := Unit) (κ := Unit)
    (if ((!true) || (!((2 : Int) == (2 : Int)))) then (.ok (.rt false))
    else (bnd (bnd (y_is_whole thing_2.1 (0 : Int) ((sea_1.length : Int) - (1 : Int))) fun a_3 => if a_3 then (bnd (bnd (bnd (bnd (ixO sea_1 (0 : Int)) fun a_4 =>
      (.ok (a_4.length : Int))) fun a_5 =>
      (.ok (a_5 - (1 : Int)))) fun a_6 =>
      (y_is_whole thing_2.2 (0 : Int) a_6)) fun a_8 => .ok a_8) else .ok false) fun a_10 => .ok (.rt a_10)))
theorem r_is_cell (sea_1 : (List (List Int))) (thing_2 : (Int × Int)) : RFk rs_is_cell (m_is_cell [(eT (eT D.int)) sea_1, (eP2 D.int D.int) thing_2]) (y_is_cell sea_1 thing_2) := by
  unfold m_is_cell y_is_cell b_is_cell
  refine x_def (fr := [.s ((eT (eT D.int)) sea_1), .s ((eP2 D.int D.int) thing_2)]) (F := (fun _ => [.any, .any])) (G := fun _ => []) (show Fits _ [some (.sh ((eT (eT D.int)) sea_1)), some (.sh ((eP2 D.int D.int) thing_2))] from (.cons rfl (.cons rfl .nil))) ?_ rfl (.inl rfl)
  apply xs_ifd
  · apply xs_if
    · apply xt_or (fr' := [.s ((eT (eT D.int)) sea_1), .s ((eP2 D.int D.int) thing_2)])
      · exact xt_notP (xt_val (xj_p (xe_n (xj_b rfl (xj_nil (x_get rfl (x_go (go_s (a := true) (en := D.bl) rfl)))))) (xj_nil (x_kTv (a := true) (b := id) rfl))))
      · apply xt_toP
        · apply xt_b1 (b := id)
          · exact xe_n (xj_p (xe_n (xj_b rfl (xj_nil (x_get rfl (x_go (go_s rfl)))))) (xj_p (xe_c (a := (2 : Int)) (en := D.int) rfl) (xj_nil (x_go go_nei))))
          · exact fun _ => rfl
        · exact fle_c .r (fle_c .r fle_nil)
      · exact fle_c .r (fle_c .r fle_nil)
    · exact xs_retP (r := false) (xe_c (a := false) (en := D.bl) rfl) rfl (.inl rfl) rfl
    · apply xs_pass
      · apply xs_last
        · apply xs_ret (r := fun (a_10 : Bool) => a_10)
          · apply xe_andG (r := fun (a_3 : Bool) => false)
            · exact xe_ca (xj_p (xe_n (xj_b rfl (xj_p (xe_c (a := (0 : Int)) (en := D.int) rfl) (xj_nil (x_get rfl (x_go (go_ixP (a := thing_2.1) (en := D.int) rfl))))))) (xj_p (xe_c (a := (0 : Int)) (en := D.int) rfl) (xj_p (xe_n (xj_p (xe_n (xj_b rfl (xj_nil (x_get rfl (x_go go_lenT))))) (xj_p (xe_c (a := (1 : Int)) (en := D.int) rfl) (xj_nil (x_go go_sub))))) (xj_nil (x_ca (rs := rs_is_whole) (r_is_whole thing_2.1 (0 : Int) ((sea_1.length : Int) - (1 : Int))) rfl)))))
            · exact fun _ => rfl
            · intro a_3
              apply xe_map (k := fun (a_8 : Bool) => a_8) (en' := D.bl) (F := (fun (a_9 : Bool) => [.s ((eT (eT D.int)) sea_1), .s ((eP2 D.int D.int) thing_2)]))
              · apply xe_ca
                · apply xj_p
                  · exact xe_n (xj_b rfl (xj_p (xe_c (a := (1 : Int)) (en := D.int) rfl) (xj_nil (x_get rfl (x_go (go_ixP (a := thing_2.2) (en := D.int) rfl))))))
                  · apply xj_p
                    · exact xe_c (a := (0 : Int)) (en := D.int) rfl
                    · apply xj_e
                      · apply xe_n
                        · apply xj_e
                          · apply xe_n
                            · apply xj_e
                              · exact xe_n (xj_b rfl (xj_p (xe_c (a := (0 : Int)) (en := D.int) rfl) (xj_nil (x_get rfl (x_go go_ixT)))))
                              · intro a_4
                                exact xj_nil (x_go go_lenT)
                          · intro a_5
                            exact xj_p (xe_c (a := (1 : Int)) (en := D.int) rfl) (xj_nil (x_go go_sub))
                      · intro a_6
                        exact xj_nil (x_ca (rs := rs_is_whole) (r_is_whole thing_2.2 (0 : Int) a_6) rfl)
              · exact fun _ => rfl
              · exact fun a_8 => (fle_c .r (fle_c .r fle_nil))
            · exact fun _ => rfl
            · exact fun a_3 => (fle_c .r (fle_c .r fle_nil))
          · exact fun _ => rfl
          · exact .inl rfl
          · exact fun _ => rfl
abbrev rs_need_cell : RS Unit := ⟨.s, eU, none, (fun _ => .non)⟩
def y_need_cell (sea_1 : (List (List Int))) (cell_2 : (Int × Int)) : O Unit := finN (σ := Unit) (κ := Unit)
    (bnd (bnd (y_is_cell sea_1 cell_2) fun a_3 =>
      (.ok a_3)) fun a_4 =>
    if (!a_4) then .bad
    else (.ok (.nx ()))) (fun _ => ())
theorem r_need_cell (sea_1 : (List (List Int))) (cell_2 : (Int × Int)) : RFk rs_need_cell (m_need_cell [(eT (eT D.int)) sea_1, (eP2 D.int D.int) cell_2]) (y_need_cell sea_1 cell_2) := by
  unfold m_need_cell y_need_cell b_need_cell
  refine x_defN (fr := [.s ((eT (eT D.int)) sea_1), .s ((eP2 D.int D.int) cell_2)]) (F := (fun _ => [.any, .any])) (G := fun _ => []) (show Fits _ [some (.sh ((eT (eT D.int)) sea_1)), some (.sh ((eP2 D.int D.int) cell_2))] from (.cons rfl (.cons rfl .nil))) ?_ rfl (.inl rfl) (fun _ => rfl) (fun _ => rfl) (show Tk.s ≠ Tk.o from nofun)
  apply xs_last
  · apply xs_ifd
    · apply xs_ifE
      · apply xt_not
        · apply xt_val
          · apply xj_e
            · exact xe_ca (xj_p (xe_s (a := sea_1) (en := (eT (eT D.int))) rfl) (xj_p (xe_s (a := cell_2) (en := (eP2 D.int D.int)) rfl) (xj_nil (x_ca (rs := rs_is_cell) (r_is_cell sea_1 cell_2) rfl))))
            · intro a_3
              exact xj_nil (x_kTv (a := a_3) (b := id) rfl)
      · intro a_4
        exact xs_bad
      · intro a_4
        apply xs_pass
        · apply xs_nx (s := ())
          · exact fle_c .sa (fle_c .sa fle_nil)
abbrev rs_need_day : RS Unit := ⟨.s, eU, none, (fun _ => .non)⟩
def y_need_day (day_1 : Int) : O Unit := finN (σ := Unit) (κ := Unit)
    (bnd (bnd (y_is_whole day_1 (0 : Int) (400 : Int)) fun a_2 =>
      (.ok a_2)) fun a_3 =>
    if (!a_3) then .bad
    else (.ok (.nx ()))) (fun _ => ())
theorem r_need_day (day_1 : Int) : RFk rs_need_day (m_need_day [D.int day_1]) (y_need_day day_1) := by
  unfold m_need_day y_need_day b_need_day
  refine x_defN (fr := [.s (D.int day_1)]) (F := (fun _ => [.any])) (G := fun _ => []) (show Fits _ [some (.sh (D.int day_1))] from (.cons rfl .nil)) ?_ rfl (.inl rfl) (fun _ => rfl) (fun _ => rfl) (show Tk.s ≠ Tk.o from nofun)
  apply xs_last
  · apply xs_ifd
    · apply xs_ifE
      · apply xt_not
        · apply xt_val
          · apply xj_e
            · exact xe_ca (xj_p (xe_s (a := day_1) (en := D.int) rfl) (xj_p (xe_c (a := (0 : Int)) (en := D.int) rfl) (xj_p (xe_c (a := (400 : Int)) (en := D.int) rfl) (xj_nil (x_ca (rs := rs_is_whole) (r_is_whole day_1 (0 : Int) (400 : Int)) rfl)))))
            · intro a_2
              exact xj_nil (x_kTv (a := a_2) (b := id) rfl)
      · intro a_3
        exact xs_bad
      · intro a_3
        apply xs_pass
        · apply xs_nx (s := ())
          · exact fle_c .sa fle_nil
abbrev rs_depth_at : RS Int := ⟨.s, D.int, none, (fun _ => .non)⟩
def y_depth_at (sea_1 : (List (List Int))) (cell_2 : (Int × Int)) : O Int := finR (σ := Unit) (κ := Unit)
    (bnd (bnd (ixO sea_1 cell_2.1) fun a_3 =>
      (ixO a_3 cell_2.2)) fun a_4 => .ok (.rt a_4))
theorem r_depth_at (sea_1 : (List (List Int))) (cell_2 : (Int × Int)) : RFk rs_depth_at (m_depth_at [(eT (eT D.int)) sea_1, (eP2 D.int D.int) cell_2]) (y_depth_at sea_1 cell_2) := by
  unfold m_depth_at y_depth_at b_depth_at
  refine x_def (fr := [.s ((eT (eT D.int)) sea_1), .s ((eP2 D.int D.int) cell_2)]) (F := (fun _ => [.any, .any])) (G := fun _ => []) (show Fits _ [some (.sh ((eT (eT D.int)) sea_1)), some (.sh ((eP2 D.int D.int) cell_2))] from (.cons rfl (.cons rfl .nil))) ?_ rfl (.inl rfl)
  apply xs_last
  · apply xs_ret (r := fun (a_4 : Int) => a_4)
    · apply xe_n
      · apply xj_e
        · exact xe_n (xj_b rfl (xj_p (xe_n (xj_b rfl (xj_p (xe_c (a := (0 : Int)) (en := D.int) rfl) (xj_nil (x_get rfl (x_go (go_ixP (a := cell_2.1) (en := D.int) rfl))))))) (xj_nil (x_get rfl (x_go go_ixT)))))
        · intro a_3
          exact xj_p (xe_n (xj_b rfl (xj_p (xe_c (a := (1 : Int)) (en := D.int) rfl) (xj_nil (x_get rfl (x_go (go_ixP (a := cell_2.2) (en := D.int) rfl))))))) (xj_nil (x_go go_ixT))
    · exact fun _ => rfl
    · exact .inl rfl
    · exact fun _ => rfl
abbrev rs_waters_beside : RS (List (Int × Int)) := ⟨.o, (eL (eP2 D.int D.int)), none, (fun _ => .non)⟩
def y_waters_beside (sea_1 : (List (List Int))) (cell_2 : (Int × Int)) : O (List (Int × Int)) := finR (σ := Unit) (κ := Unit)
    (lt ([((cell_2.1 - (1 : Int)), cell_2.2), (cell_2.1, (cell_2.2 - (1 : Int))), (cell_2.1, (cell_2.2 + (1 : Int))), ((cell_2.1 + (1 : Int)), cell_2.2)] : (List (Int × Int))) fun some_3 =>
    (bnd (compO some_3 (fun x_5 => (bnd (bnd (bnd (y_is_cell sea_1 x_5) fun a_6 =>
      (.ok a_6)) fun a_7 => if a_7 then (bnd (bnd (y_depth_at sea_1 x_5) fun a_8 =>
      (.ok (decide ((0 : Int) < a_8)))) fun a_10 => .ok a_10) else .ok false) fun a_13 => .ok a_13)) (fun x_5 => (.ok x_5))) fun a_17 => .ok (.rt a_17)))
theorem r_waters_beside (sea_1 : (List (List Int))) (cell_2 : (Int × Int)) : RFk rs_waters_beside (m_waters_beside [(eT (eT D.int)) sea_1, (eP2 D.int D.int) cell_2]) (y_waters_beside sea_1 cell_2) := by
  unfold m_waters_beside y_waters_beside b_waters_beside
  refine x_def (fr := [.s ((eT (eT D.int)) sea_1), .s ((eP2 D.int D.int) cell_2), .any, .any, .any, .any]) (F := (fun _ => [.any, .any, .any, .any, .any, .any])) (G := fun _ => []) (show Fits _ [some (.sh ((eT (eT D.int)) sea_1)), some (.sh ((eP2 D.int D.int) cell_2)), none, none, none, none] from (.cons rfl (.cons rfl (.cons trivial (.cons trivial (.cons trivial (.cons trivial .nil))))))) ?_ rfl (.inl rfl)
  apply xs_unpP
  · exact xe_s (a := cell_2) (en := (eP2 D.int D.int)) rfl
  · exact tg_t (tg_c (tg_n rfl) (tg_c (tg_n rfl) tg_0))
  · apply xs_let
    · exact xe_n (xj_p (xe_n (xj_p (xe_n (xj_b rfl (xj_p (xe_c (a := (1 : Int)) (en := D.int) rfl) (xj_nil (x_get rfl (x_go go_sub)))))) (xj_p (xe_s (a := cell_2.2) (en := D.int) rfl) (xj_nil (x_go (go_tup (a := ((cell_2.1 - (1 : Int)), cell_2.2)) (en := (eP2 D.int D.int)) rfl rfl)))))) (xj_p (xe_n (xj_p (xe_s (a := cell_2.1) (en := D.int) rfl) (xj_p (xe_n (xj_b rfl (xj_p (xe_c (a := (1 : Int)) (en := D.int) rfl) (xj_nil (x_get rfl (x_go go_sub)))))) (xj_nil (x_go (go_tup (a := (cell_2.1, (cell_2.2 - (1 : Int)))) (en := (eP2 D.int D.int)) rfl rfl)))))) (xj_p (xe_n (xj_p (xe_s (a := cell_2.1) (en := D.int) rfl) (xj_p (xe_n (xj_b rfl (xj_p (xe_c (a := (1 : Int)) (en := D.int) rfl) (xj_nil (x_get rfl (x_go go_add)))))) (xj_nil (x_go (go_tup (a := (cell_2.1, (cell_2.2 + (1 : Int)))) (en := (eP2 D.int D.int)) rfl rfl)))))) (xj_p (xe_n (xj_p (xe_n (xj_b rfl (xj_p (xe_c (a := (1 : Int)) (en := D.int) rfl) (xj_nil (x_get rfl (x_go go_add)))))) (xj_p (xe_s (a := cell_2.2) (en := D.int) rfl) (xj_nil (x_go (go_tup (a := ((cell_2.1 + (1 : Int)), cell_2.2)) (en := (eP2 D.int D.int)) rfl rfl)))))) (xj_nil (x_go (go_lst (a := ([((cell_2.1 - (1 : Int)), cell_2.2), (cell_2.1, (cell_2.2 - (1 : Int))), (cell_2.1, (cell_2.2 + (1 : Int))), ((cell_2.1 + (1 : Int)), cell_2.2)] : (List (Int × Int)))) (en := (eL (eP2 D.int D.int))) rfl rfl)))))))
    · exact fun _ => rfl
    · intro some_3
      apply xs_last
      · apply xs_ret (r := fun (a_17 : (List (Int × Int))) => a_17)
        · apply xe_compO (t1 := .ok some_3) (xs := fun (a_4 : (List (Int × Int))) => a_4) (p := (fun _ (x_5 : (Int × Int)) => (bnd (bnd (bnd (y_is_cell sea_1 x_5) fun a_6 =>
      (.ok a_6)) fun a_7 => if a_7 then (bnd (bnd (y_depth_at sea_1 x_5) fun a_8 =>
      (.ok (decide ((0 : Int) < a_8)))) fun a_10 => .ok a_10) else .ok false) fun a_13 => .ok a_13))) (f := (fun _ (x_5 : (Int × Int)) => (.ok x_5))) (enα := (eP2 D.int D.int)) (enβ := (eP2 D.int D.int)) (fc := [.s ((eT (eT D.int)) sea_1), .s ((eP2 D.int D.int) cell_2), .s (D.int cell_2.1), .s (D.int cell_2.2), .s ((eL (eP2 D.int D.int)) some_3), .any]) (Fb := (fun (x_5 : (Int × Int)) => [.s ((eT (eT D.int)) sea_1), .s ((eP2 D.int D.int) cell_2), .s (D.int cell_2.1), .s (D.int cell_2.2), .s ((eL (eP2 D.int D.int)) some_3), .s ((eP2 D.int D.int) x_5)])) (Fb' := (fun (x_5 : (Int × Int)) => [.s ((eT (eT D.int)) sea_1), .s ((eP2 D.int D.int) cell_2), .s (D.int cell_2.1), .s (D.int cell_2.2), .s ((eL (eP2 D.int D.int)) some_3), .s ((eP2 D.int D.int) x_5)])) (fr' := [.s ((eT (eT D.int)) sea_1), .s ((eP2 D.int D.int) cell_2), .s (D.int cell_2.1), .s (D.int cell_2.2), .s ((eL (eP2 D.int D.int)) some_3), .any])
          · apply xi_v
            · exact xe_o (a := some_3) (en := (eL (eP2 D.int D.int))) rfl
            · exact fun _ => rfl
          · exact fun _ => rfl
          · exact fun a_4 => (fle_c .r (fle_c .r (fle_c .r (fle_c .r (fle_c .r (fle_c .r fle_nil))))))
          · exact fun x_5 => tg_n rfl
          · intro _ x_5
            apply xt_map (k := fun (a_13 : Bool) => a_13) (b' := id) (F := (fun (a_14 : Bool) => [.s ((eT (eT D.int)) sea_1), .s ((eP2 D.int D.int) cell_2), .s (D.int cell_2.1), .s (D.int cell_2.2), .s ((eL (eP2 D.int D.int)) some_3), .s ((eP2 D.int D.int) x_5)]))
            · apply xt_andG (r := fun (a_7 : Bool) => false)
              · apply xt_val
                · apply xj_e
                  · exact xe_ca (xj_p (xe_s (a := sea_1) (en := (eT (eT D.int))) rfl) (xj_p (xe_s (a := x_5) (en := (eP2 D.int D.int)) rfl) (xj_nil (x_ca (rs := rs_is_cell) (r_is_cell sea_1 x_5) rfl))))
                  · intro a_6
                    exact xj_nil (x_kTv (a := a_6) (b := id) rfl)
              · intro a_7
                apply xt_map (k := fun (a_10 : Bool) => a_10) (b' := id) (F := (fun (a_11 : Bool) => [.s ((eT (eT D.int)) sea_1), .s ((eP2 D.int D.int) cell_2), .s (D.int cell_2.1), .s (D.int cell_2.2), .s ((eL (eP2 D.int D.int)) some_3), .s ((eP2 D.int D.int) x_5)]))
                · apply xt_b1
                  · apply xe_n
                    · apply xj_e
                      · exact xe_ca (xj_p (xe_s (a := sea_1) (en := (eT (eT D.int))) rfl) (xj_p (xe_s (a := x_5) (en := (eP2 D.int D.int)) rfl) (xj_nil (x_ca (rs := rs_depth_at) (r_depth_at sea_1 x_5) rfl))))
                      · intro a_8
                        exact xj_p (xe_c (a := (0 : Int)) (en := D.int) rfl) (xj_nil (x_go go_gt))
                  · exact fun _ => rfl
                · exact fun _ => rfl
                · exact fun a_10 => (fle_c .r (fle_c .r (fle_c .r (fle_c .r (fle_c .r (fle_c .r fle_nil))))))
              · exact fun _ => rfl
              · exact fun a_7 => (fle_c .r (fle_c .r (fle_c .r (fle_c .r (fle_c .r (fle_c .r fle_nil))))))
            · exact fun _ => rfl
            · exact fun a_13 => (fle_c .r (fle_c .r (fle_c .r (fle_c .r (fle_c .r (fle_c .r fle_nil))))))
          · intro _ x_5
            apply xe_mapP (r := x_5) (en' := (eP2 D.int D.int)) (F := (fun (a_16 : (Int × Int)) => [.s ((eT (eT D.int)) sea_1), .s ((eP2 D.int D.int) cell_2), .s (D.int cell_2.1), .s (D.int cell_2.2), .s ((eL (eP2 D.int D.int)) some_3), .s ((eP2 D.int D.int) x_5)]))
            · exact xe_s (a := x_5) (en := (eP2 D.int D.int)) rfl
            · exact rfl
            · exact fle_c .r (fle_c .r (fle_c .r (fle_c .r (fle_c .r (fle_c .r fle_nil)))))
          · exact fun _ => rfl
          · exact fun _ => (fle_c .r (fle_c .r (fle_c .r (fle_c .r (fle_c .r (fle_c .r fle_nil))))))
          · exact rfl
          · exact fun _ => fle_r
        · exact fun _ => rfl
        · exact .inl rfl
        · exact fun _ => rfl
abbrev rs_drifted : RS (List (Int × Int)) := ⟨.s, (eT (eP2 D.int D.int)), none, (fun _ => .non)⟩
def yl_drifted_1 (s_35 : ((List ((Int × Int) × Bool)) × (List (Int × Int)) × Int)) (x_59 : (Int × Int)) (s_60 : ((List ((Int × Int) × Bool)))) : O (Fw ((List ((Int × Int) × Bool))) ((List ((Int × Int) × Bool))) (List (Int × Int))) :=
    (seqF (σ1 := ((List ((Int × Int) × Bool)))) (if (!(lookG x_59 s_35.1).isSome) then (bnd (putO s_60 x_59 true) fun fresh_62 =>
    (.ok (.nx fresh_62)))
    else (.ok (.nx s_60))) fun j_63 =>
    (.ok (.nx j_63)))
theorem rl_drifted_1 (sea_1 : (List (List Int))) (cell_2 : (Int × Int)) (days_3 : Int) (s_35 : ((List ((Int × Int) × Bool)) × (List (Int × Int)) × Int)) (x_53 : (Int × Int)) (x_59 : (Int × Int)) (s_60 : ((List ((Int × Int) × Bool)))) : XS [.s ((eT (eT D.int)) sea_1), .s ((eP2 D.int D.int) cell_2), .s (D.int days_3), .o ((eM kII D.bl) s_35.1), .s ((eL (eP2 D.int D.int)) s_35.2.1), .s (D.int s_35.2.2), .o ((eM kII D.bl) s_60), .s ((eP2 D.int D.int) x_53), .s ((eP2 D.int D.int) x_59)] l_drifted_1 (yl_drifted_1 s_35 x_59 s_60) (fun s_60 => [.s ((eT (eT D.int)) sea_1), .s ((eP2 D.int D.int) cell_2), .s (D.int days_3), .o ((eM kII D.bl) s_35.1), .s ((eL (eP2 D.int D.int)) s_35.2.1), .s (D.int s_35.2.2), .o ((eM kII D.bl) s_60), .s ((eP2 D.int D.int) x_53), .any]) (fun s_60 => [.s ((eT (eT D.int)) sea_1), .s ((eP2 D.int D.int) cell_2), .s (D.int days_3), .o ((eM kII D.bl) s_35.1), .s ((eL (eP2 D.int D.int)) s_35.2.1), .s (D.int s_35.2.2), .o ((eM kII D.bl) s_60), .s ((eP2 D.int D.int) x_53), .any]) rs_drifted := by
  unfold l_drifted_1 yl_drifted_1
  apply xs_last
  · apply xs_seq (F1 := fun (j_63 : ((List ((Int × Int) × Bool)))) => [.s ((eT (eT D.int)) sea_1), .s ((eP2 D.int D.int) cell_2), .s (D.int days_3), .o ((eM kII D.bl) s_35.1), .s ((eL (eP2 D.int D.int)) s_35.2.1), .s (D.int s_35.2.2), .o ((eM kII D.bl) j_63), .s ((eP2 D.int D.int) x_53), .s ((eP2 D.int D.int) x_59)])
    · apply xs_if
      · apply xt_b1 (b := id)
        · exact xe_n (xj_b rfl (xj_b rfl (xj_nil (x_get rfl (x_get rfl (x_go (go_ninM kt_II)))))))
        · exact fun _ => rfl
      · apply xs_last
        · apply xs_st
          · apply sj_p
            · exact xe_c (a := true) (en := D.bl) rfl
            · apply sj_b
              · exact rfl
              · apply sj_p
                · exact xe_s (a := x_59) (en := (eP2 D.int D.int)) rfl
                · apply sj_nil
                  · apply s_get
                    · exact rfl
                    · apply s_put
                      · exact rfl
                      · exact .inl rfl
                      · exact gs_M kt_II
                      · intro fresh_62
                        apply xs_nx (s := fresh_62)
                        · exact fle_c .r (fle_c .r (fle_c .r (fle_c .r (fle_c .r (fle_c .r (fle_c .r (fle_c .r (fle_c .r fle_nil))))))))
      · apply xs_nx (s := s_60)
        · exact fle_c .r (fle_c .r (fle_c .r (fle_c .r (fle_c .r (fle_c .r (fle_c .r (fle_c .r (fle_c .r fle_nil))))))))
    · intro j_63
      apply xs_nx (s := j_63)
      · exact fle_c .r (fle_c .r (fle_c .r (fle_c .r (fle_c .r (fle_c .r (fle_c .r (fle_c .r (fle_c .sa fle_nil))))))))
def yl_drifted_2 (sea_1 : (List (List Int))) (s_35 : ((List ((Int × Int) × Bool)) × (List (Int × Int)) × Int)) (x_53 : (Int × Int)) (s_54 : ((List ((Int × Int) × Bool)))) : O (Fw ((List ((Int × Int) × Bool))) ((List ((Int × Int) × Bool))) (List (Int × Int))) :=
    (seqF (σ1 := ((List ((Int × Int) × Bool)))) (bnd (y_waters_beside sea_1 x_53) fun a_55 => forF (yl_drifted_1 s_35) a_55 s_54) fun j_64 =>
    (.ok (.nx j_64)))
theorem rl_drifted_2 (sea_1 : (List (List Int))) (cell_2 : (Int × Int)) (days_3 : Int) (s_35 : ((List ((Int × Int) × Bool)) × (List (Int × Int)) × Int)) (x_53 : (Int × Int)) (s_54 : ((List ((Int × Int) × Bool)))) : XS [.s ((eT (eT D.int)) sea_1), .s ((eP2 D.int D.int) cell_2), .s (D.int days_3), .o ((eM kII D.bl) s_35.1), .s ((eL (eP2 D.int D.int)) s_35.2.1), .s (D.int s_35.2.2), .o ((eM kII D.bl) s_54), .s ((eP2 D.int D.int) x_53), .any] l_drifted_2 (yl_drifted_2 sea_1 s_35 x_53 s_54) (fun s_54 => [.s ((eT (eT D.int)) sea_1), .s ((eP2 D.int D.int) cell_2), .s (D.int days_3), .o ((eM kII D.bl) s_35.1), .s ((eL (eP2 D.int D.int)) s_35.2.1), .s (D.int s_35.2.2), .o ((eM kII D.bl) s_54), .any, .any]) (fun s_54 => [.s ((eT (eT D.int)) sea_1), .s ((eP2 D.int D.int) cell_2), .s (D.int days_3), .o ((eM kII D.bl) s_35.1), .s ((eL (eP2 D.int D.int)) s_35.2.1), .s (D.int s_35.2.2), .o ((eM kII D.bl) s_54), .any, .any]) rs_drifted := by
  unfold l_drifted_2 yl_drifted_2
  apply xs_last
  · apply xs_seq
    · apply xs_for (xs := fun (a_55 : ((List (Int × Int)))) => a_55) (s0 := fun (a_55 : ((List (Int × Int)))) => s_54) (body := yl_drifted_1 s_35) (enα := (eP2 D.int D.int)) (Fl := fun (s_60 : ((List ((Int × Int) × Bool)))) => [.s ((eT (eT D.int)) sea_1), .s ((eP2 D.int D.int) cell_2), .s (D.int days_3), .o ((eM kII D.bl) s_35.1), .s ((eL (eP2 D.int D.int)) s_35.2.1), .s (D.int s_35.2.2), .o ((eM kII D.bl) s_60), .s ((eP2 D.int D.int) x_53), .any]) (Fb := fun (x_59 : (Int × Int)) (s_60 : ((List ((Int × Int) × Bool)))) => [.s ((eT (eT D.int)) sea_1), .s ((eP2 D.int D.int) cell_2), .s (D.int days_3), .o ((eM kII D.bl) s_35.1), .s ((eL (eP2 D.int D.int)) s_35.2.1), .s (D.int s_35.2.2), .o ((eM kII D.bl) s_60), .s ((eP2 D.int D.int) x_53), .s ((eP2 D.int D.int) x_59)])
      · apply xi_v
        · exact xe_ca (xj_p (xe_s (a := sea_1) (en := (eT (eT D.int))) rfl) (xj_p (xe_s (a := x_53) (en := (eP2 D.int D.int)) rfl) (xj_nil (x_ca (rs := rs_waters_beside) (r_waters_beside sea_1 x_53) rfl))))
        · exact fun _ => rfl
      · exact fun a_55 => (fle_c .r (fle_c .r (fle_c .r (fle_c .r (fle_c .r (fle_c .r (fle_c .r (fle_c .r (fle_c .r fle_nil)))))))))
      · exact fun x_59 s_60 => tg_n rfl
      · exact fun x_59 s_60 => rl_drifted_1 sea_1 cell_2 days_3 s_35 x_53 x_59 s_60
    · intro j_64
      apply xs_nx (s := j_64)
      · exact fle_c .r (fle_c .r (fle_c .r (fle_c .r (fle_c .r (fle_c .r (fle_c .r (fle_c .sa (fle_c .r fle_nil))))))))
def yl_drifted_3 (sea_1 : (List (List Int))) (s_35 : ((List ((Int × Int) × Bool)) × (List (Int × Int)) × Int)) : O (Fw ((List ((Int × Int) × Bool)) × (List (Int × Int)) × Int) ((List ((Int × Int) × Bool)) × (List (Int × Int)) × Int) (List (Int × Int))) :=
    (lt ([] : (List ((Int × Int) × Bool))) fun fresh_42 =>
    (seqF (σ1 := ((List ((Int × Int) × Bool)))) (forF (yl_drifted_2 sea_1 s_35) s_35.2.1 fresh_42) fun j_65 =>
    (bnd (updO s_35.1 j_65) fun a_66 =>
    (.ok (.nx (a_66, (j_65.map fun p => p.1), (s_35.2.2 - (1 : Int))))))))
theorem rl_drifted_3 (sea_1 : (List (List Int))) (cell_2 : (Int × Int)) (days_3 : Int) (s_35 : ((List ((Int × Int) × Bool)) × (List (Int × Int)) × Int)) : XS [.s ((eT (eT D.int)) sea_1), .s ((eP2 D.int D.int) cell_2), .s (D.int days_3), .o ((eM kII D.bl) s_35.1), .o ((eL (eP2 D.int D.int)) s_35.2.1), .s (D.int s_35.2.2), .any, .any, .any] l_drifted_3 (yl_drifted_3 sea_1 s_35) (fun s_35 => [.s ((eT (eT D.int)) sea_1), .s ((eP2 D.int D.int) cell_2), .s (D.int days_3), .o ((eM kII D.bl) s_35.1), .o ((eL (eP2 D.int D.int)) s_35.2.1), .s (D.int s_35.2.2), .any, .any, .any]) (fun s_35 => [.s ((eT (eT D.int)) sea_1), .s ((eP2 D.int D.int) cell_2), .s (D.int days_3), .o ((eM kII D.bl) s_35.1), .o ((eL (eP2 D.int D.int)) s_35.2.1), .s (D.int s_35.2.2), .any, .any, .any]) rs_drifted := by
  unfold l_drifted_3 yl_drifted_3
  apply xs_let
  · exact xe_own (a := ([] : (List ((Int × Int) × Bool)))) (en := (eM kII D.bl)) rfl
  · exact fun _ => rfl
  · intro fresh_42
    apply xs_seq
    · apply xs_forP (xs := s_35.2.1) (s0 := fresh_42) (body := yl_drifted_2 sea_1 s_35) (enα := (eP2 D.int D.int)) (Fl := fun (s_54 : ((List ((Int × Int) × Bool)))) => [.s ((eT (eT D.int)) sea_1), .s ((eP2 D.int D.int) cell_2), .s (D.int days_3), .o ((eM kII D.bl) s_35.1), .s ((eL (eP2 D.int D.int)) s_35.2.1), .s (D.int s_35.2.2), .o ((eM kII D.bl) s_54), .any, .any]) (Fb := fun (x_53 : (Int × Int)) (s_54 : ((List ((Int × Int) × Bool)))) => [.s ((eT (eT D.int)) sea_1), .s ((eP2 D.int D.int) cell_2), .s (D.int days_3), .o ((eM kII D.bl) s_35.1), .s ((eL (eP2 D.int D.int)) s_35.2.1), .s (D.int s_35.2.2), .o ((eM kII D.bl) s_54), .s ((eP2 D.int D.int) x_53), .any])
      · apply xi_v
        · exact xe_o (a := s_35.2.1) (en := (eL (eP2 D.int D.int))) rfl
        · exact fun _ => rfl
      · exact fle_c .r (fle_c .r (fle_c .r (fle_c .r (fle_c .r (fle_c .r (fle_c .r (fle_c .r (fle_c .r fle_nil))))))))
      · exact fun x_53 s_54 => tg_n rfl
      · exact fun x_53 s_54 => rl_drifted_2 sea_1 cell_2 days_3 s_35 x_53 s_54
    · intro j_65
      apply xs_exp
      · exact xe_mut rfl (.inl rfl) rfl (xj_p (xe_o (a := j_65) (en := (eM kII D.bl)) rfl) (xj_nil (x_kM2 rfl (.inl rfl) (gm_updM kt_II))))
      · intro a_66
        apply xs_last
        · apply xs_par
          · apply xp_p
            · exact xe_n (xj_b rfl (xj_nil (x_get rfl (x_go (go_lstM (m := j_65) (ev := D.bl) kt_II)))))
            · apply xp_p
              · exact xe_n (xj_b rfl (xj_p (xe_c (a := (1 : Int)) (en := D.int) rfl) (xj_nil (x_get rfl (x_go go_sub)))))
              · apply xp_nil
                · exact rfl
                · exact rfl
                · apply xs_nx (s := (a_66, (j_65.map fun p => p.1), (s_35.2.2 - (1 : Int))))
                  · exact fle_c .r (fle_c .r (fle_c .r (fle_c .r (fle_c .r (fle_c .r (fle_c .sa (fle_c .r (fle_c .r fle_nil))))))))
def yw_drifted_3 (s_35 : ((List ((Int × Int) × Bool)) × (List (Int × Int)) × Int)) : O Bool :=
    (bnd (bnd (neO ((eL (eP2 D.int D.int)) s_35.2.1) ((eL D.int) ([] : (List Int)))) fun a_36 => if a_36 then (.ok (decide ((0 : Int) < s_35.2.2))) else .ok false) fun a_40 => .ok a_40)
theorem rw_drifted_3 (sea_1 : (List (List Int))) (cell_2 : (Int × Int)) (days_3 : Int) (s_35 : ((List ((Int × Int) × Bool)) × (List (Int × Int)) × Int)) : XT [.s ((eT (eT D.int)) sea_1), .s ((eP2 D.int D.int) cell_2), .s (D.int days_3), .o ((eM kII D.bl) s_35.1), .o ((eL (eP2 D.int D.int)) s_35.2.1), .s (D.int s_35.2.2), .any, .any, .any] wc_drifted_1 (yw_drifted_3 s_35) id (fun _ => [.s ((eT (eT D.int)) sea_1), .s ((eP2 D.int D.int) cell_2), .s (D.int days_3), .o ((eM kII D.bl) s_35.1), .o ((eL (eP2 D.int D.int)) s_35.2.1), .s (D.int s_35.2.2), .any, .any, .any]) := by
  unfold wc_drifted_1 yw_drifted_3
  apply xt_map (k := fun (a_40 : Bool) => a_40) (b' := id) (F := (fun (a_41 : Bool) => [.s ((eT (eT D.int)) sea_1), .s ((eP2 D.int D.int) cell_2), .s (D.int days_3), .o ((eM kII D.bl) s_35.1), .o ((eL (eP2 D.int D.int)) s_35.2.1), .s (D.int s_35.2.2), .any, .any, .any]))
  · apply xt_andG (r := fun (a_36 : Bool) => false)
    · apply xt_b1
      · exact xe_n (xj_b rfl (xj_p (xe_n (xj_nil (x_go (go_lst (a := ([] : (List Int))) (en := (eL D.int)) rfl rfl)))) (xj_nil (x_get rfl (x_go go_ne)))))
      · exact fun _ => rfl
    · intro a_36
      apply xt_mapP (r := (decide ((0 : Int) < s_35.2.2))) (b := id) (F := (fun (a_38 : Bool) => [.s ((eT (eT D.int)) sea_1), .s ((eP2 D.int D.int) cell_2), .s (D.int days_3), .o ((eM kII D.bl) s_35.1), .o ((eL (eP2 D.int D.int)) s_35.2.1), .s (D.int s_35.2.2), .any, .any, .any]))
      · apply xt_b1 (b := id)
        · exact xe_n (xj_b rfl (xj_p (xe_c (a := (0 : Int)) (en := D.int) rfl) (xj_nil (x_get rfl (x_go go_gt)))))
        · exact fun _ => rfl
      · exact rfl
      · exact fle_c .r (fle_c .r (fle_c .r (fle_c .r (fle_c .r (fle_c .r (fle_c .r (fle_c .r (fle_c .r fle_nil))))))))
    · exact fun _ => rfl
    · exact fun a_36 => (fle_c .r (fle_c .r (fle_c .r (fle_c .r (fle_c .r (fle_c .r (fle_c .r (fle_c .r (fle_c .r fle_nil)))))))))
  · exact fun _ => rfl
  · exact fun a_40 => (fle_c .r (fle_c .r (fle_c .r (fle_c .r (fle_c .r (fle_c .r (fle_c .r (fle_c .r (fle_c .r fle_nil)))))))))
def y_drifted (sea_1 : (List (List Int))) (cell_2 : (Int × Int)) (days_3 : Int) : O (List (Int × Int)) := finR (σ := Unit) (κ := Unit)
    (lt ([(cell_2, true)] : (List ((Int × Int) × Bool))) fun found_4 =>
    (bnd (bnd (y_depth_at sea_1 cell_2) fun a_5 =>
      (.ok (a_5 == (0 : Int)))) fun a_6 =>
    if a_6 then (.ok (.rt ([cell_2] : (List (Int × Int)))))
    else (seqF (σ1 := ((List ((Int × Int) × Bool)) × (List (Int × Int)) × Int)) (whF (yw_drifted_3) (yl_drifted_3 sea_1) wF (found_4, ([cell_2] : (List (Int × Int))), days_3)) fun j_67 =>
    (.ok (.rt ((j_67.1.map fun p => p.1).mergeSort leII))))))
theorem r_drifted (sea_1 : (List (List Int))) (cell_2 : (Int × Int)) (days_3 : Int) : RFk rs_drifted (m_drifted [(eT (eT D.int)) sea_1, (eP2 D.int D.int) cell_2, D.int days_3]) (y_drifted sea_1 cell_2 days_3) := by
  unfold m_drifted y_drifted b_drifted
  refine x_def (fr := [.s ((eT (eT D.int)) sea_1), .s ((eP2 D.int D.int) cell_2), .s (D.int days_3), .any, .any, .any, .any, .any, .any]) (F := (fun _ => [.any, .any, .any, .any, .any, .any, .any, .any, .any])) (G := fun _ => []) (show Fits _ [some (.sh ((eT (eT D.int)) sea_1)), some (.sh ((eP2 D.int D.int) cell_2)), some (.sh (D.int days_3)), none, none, none, none, none, none] from (.cons rfl (.cons rfl (.cons rfl (.cons trivial (.cons trivial (.cons trivial (.cons trivial (.cons trivial (.cons trivial .nil)))))))))) ?_ rfl (.inl rfl)
  apply xs_let
  · exact xe_n (xj_b rfl (xj_nil (x_get rfl (x_go (go_disp1 (v := true) kt_II)))))
  · exact fun _ => rfl
  · intro found_4
    apply xs_ifd
    · apply xs_ifE
      · apply xt_b1
        · apply xe_n
          · apply xj_e
            · exact xe_ca (xj_p (xe_s (a := sea_1) (en := (eT (eT D.int))) rfl) (xj_p (xe_s (a := cell_2) (en := (eP2 D.int D.int)) rfl) (xj_nil (x_ca (rs := rs_depth_at) (r_depth_at sea_1 cell_2) rfl))))
            · intro a_5
              exact xj_p (xe_c (a := (0 : Int)) (en := D.int) rfl) (xj_nil (x_go go_eqi))
        · exact fun _ => rfl
      · intro a_6
        exact xs_retP (r := ([cell_2] : (List (Int × Int)))) (xe_n (xj_p (xe_s (a := cell_2) (en := (eP2 D.int D.int)) rfl) (xj_nil (x_go (go_tup (a := cell_2) (en := (eP1 (eP2 D.int D.int))) rfl rfl))))) rfl (.inl rfl) rfl
      · intro a_6
        apply xs_pass
        · apply xs_par
          · apply xp_p
            · exact xe_n (xj_p (xe_s (a := cell_2) (en := (eP2 D.int D.int)) rfl) (xj_nil (x_go (go_lst (a := ([cell_2] : (List (Int × Int)))) (en := (eL (eP2 D.int D.int))) rfl rfl))))
            · apply xp_p
              · exact xe_s (a := days_3) (en := D.int) rfl
              · apply xp_nil
                · exact rfl
                · exact rfl
                · apply xs_seq
                  · apply xs_wh (s0 := (found_4, ([cell_2] : (List (Int × Int))), days_3)) (tc := yw_drifted_3) (body := yl_drifted_3 sea_1) (Fl := fun (s_35 : ((List ((Int × Int) × Bool)) × (List (Int × Int)) × Int)) => [.s ((eT (eT D.int)) sea_1), .s ((eP2 D.int D.int) cell_2), .s (D.int days_3), .o ((eM kII D.bl) s_35.1), .o ((eL (eP2 D.int D.int)) s_35.2.1), .s (D.int s_35.2.2), .any, .any, .any]) (Fc := fun (s_35 : ((List ((Int × Int) × Bool)) × (List (Int × Int)) × Int)) => [.s ((eT (eT D.int)) sea_1), .s ((eP2 D.int D.int) cell_2), .s (D.int days_3), .o ((eM kII D.bl) s_35.1), .o ((eL (eP2 D.int D.int)) s_35.2.1), .s (D.int s_35.2.2), .any, .any, .any])
                    · exact fle_c .r (fle_c .r (fle_c .r (fle_c .r (fle_c .r (fle_c .r (fle_c .r (fle_c .r (fle_c .r fle_nil))))))))
                    · exact fun s_35 => rw_drifted_3 sea_1 cell_2 days_3 s_35
                    · exact fun s_35 => rl_drifted_3 sea_1 cell_2 days_3 s_35
                    · exact fun s_35 => (fle_c .r (fle_c .r (fle_c .r (fle_c .r (fle_c .r (fle_c .r (fle_c .r (fle_c .r (fle_c .r fle_nil)))))))))
                  · intro j_67
                    apply xs_last
                    · apply xs_retP (r := ((j_67.1.map fun p => p.1).mergeSort leII))
                      · exact xe_n (xj_p (xe_n (xj_b rfl (xj_nil (x_get rfl (x_go (go_srtM (m := j_67.1) (ev := D.bl) kt_II sortC_II le_II)))))) (xj_nil (x_go go_tupL)))
                      · exact rfl
                      · exact .inl rfl
                      · exact rfl
abbrev rs_drift : RS (List (Int × Int)) := ⟨.s, (eT (eP2 D.int D.int)), none, (fun _ => .non)⟩
def y_drift (sea_1 : (List (List Int))) (cell_2 : (Int × Int)) (days_3 : Int) : O (List (Int × Int)) := finR (σ := Unit) (κ := Unit)
    (bnd (y_need_sea sea_1) fun a_4 =>
    (bnd (y_need_cell sea_1 cell_2) fun a_5 =>
    (bnd (y_need_day days_3) fun a_6 =>
    (bnd (y_drifted sea_1 cell_2 days_3) fun a_7 => .ok (.rt a_7)))))
theorem r_drift (sea_1 : (List (List Int))) (cell_2 : (Int × Int)) (days_3 : Int) : RFk rs_drift (m_drift [(eT (eT D.int)) sea_1, (eP2 D.int D.int) cell_2, D.int days_3]) (y_drift sea_1 cell_2 days_3) := by
  unfold m_drift y_drift b_drift
  refine x_def (fr := [.s ((eT (eT D.int)) sea_1), .s ((eP2 D.int D.int) cell_2), .s (D.int days_3)]) (F := (fun _ => [.any, .any, .any])) (G := fun _ => []) (show Fits _ [some (.sh ((eT (eT D.int)) sea_1)), some (.sh ((eP2 D.int D.int) cell_2)), some (.sh (D.int days_3))] from (.cons rfl (.cons rfl (.cons rfl .nil)))) ?_ rfl (.inl rfl)
  apply xs_exp
  · exact xe_ca (xj_p (xe_s (a := sea_1) (en := (eT (eT D.int))) rfl) (xj_nil (x_ca (rs := rs_need_sea) (r_need_sea sea_1) rfl)))
  · intro a_4
    apply xs_exp
    · exact xe_ca (xj_p (xe_s (a := sea_1) (en := (eT (eT D.int))) rfl) (xj_p (xe_s (a := cell_2) (en := (eP2 D.int D.int)) rfl) (xj_nil (x_ca (rs := rs_need_cell) (r_need_cell sea_1 cell_2) rfl))))
    · intro a_5
      apply xs_exp
      · exact xe_ca (xj_p (xe_s (a := days_3) (en := D.int) rfl) (xj_nil (x_ca (rs := rs_need_day) (r_need_day days_3) rfl)))
      · intro a_6
        apply xs_last
        · apply xs_ret (r := fun (a_7 : (List (Int × Int))) => a_7)
          · exact xe_ca (xj_p (xe_s (a := sea_1) (en := (eT (eT D.int))) rfl) (xj_p (xe_s (a := cell_2) (en := (eP2 D.int D.int)) rfl) (xj_p (xe_s (a := days_3) (en := D.int) rfl) (xj_nil (x_ca (rs := rs_drifted) (r_drifted sea_1 cell_2 days_3) rfl)))))
          · exact fun _ => rfl
          · exact .inl rfl
          · exact fun _ => rfl
abbrev rs__law_box : RS (List Int) := ⟨.o, (eL D.int), none, (fun _ => .non)⟩
def yl__law_box_1 (j_6 : (Int)) (x_14 : Int) (s_15 : (Int)) : O (Fw (Int) (Int) (List Int)) :=
    (lt (((((j_6 % (2147483647 : Int)) * (48271 : Int)) + ((7919 : Int) * x_14)) + (1 : Int)) % (2147483647 : Int)) fun piece_16 =>
    (bnd (bnd (mulO piece_16 piece_16) fun a_17 =>
      (.ok (a_17 % (2147483629 : Int)))) fun piece_18 =>
    (bnd (bnd (bnd (mulO piece_18 (piece_18 + (13 : Int))) fun a_19 =>
      (.ok (a_19 % (2147483647 : Int)))) fun a_20 =>
      (.ok ((s_15 * (2147483647 : Int)) + a_20))) fun number_21 =>
    (.ok (.nx number_21)))))
theorem rl__law_box_1 (script_1 : (List Int)) (k_2 : Int) (j_6 : (Int)) (x_14 : Int) (s_15 : (Int)) : XS [.s ((eR D.int) script_1), .s (D.int k_2), .s (D.int j_6), .s (D.int s_15), .s (D.int x_14), .any] l__law_box_1 (yl__law_box_1 j_6 x_14 s_15) (fun s_15 => [.s ((eR D.int) script_1), .s (D.int k_2), .s (D.int j_6), .s (D.int s_15), .any, .any]) (fun s_15 => [.s ((eR D.int) script_1), .s (D.int k_2), .s (D.int j_6), .s (D.int s_15), .any, .any]) rs__law_box := by
  unfold l__law_box_1 yl__law_box_1
  apply xs_let
  · exact xe_n (xj_p (xe_n (xj_p (xe_n (xj_p (xe_n (xj_p (xe_n (xj_b rfl (xj_p (xe_c (a := (2147483647 : Int)) (en := D.int) rfl) (xj_nil (x_get rfl (x_go (go_modk rfl))))))) (xj_p (xe_c (a := (48271 : Int)) (en := D.int) rfl) (xj_nil (x_go (go_mulr rfl)))))) (xj_p (xe_n (xj_p (xe_c (a := (7919 : Int)) (en := D.int) rfl) (xj_b rfl (xj_nil (x_get rfl (x_go (go_mull rfl))))))) (xj_nil (x_go go_add))))) (xj_p (xe_c (a := (1 : Int)) (en := D.int) rfl) (xj_nil (x_go go_add))))) (xj_p (xe_c (a := (2147483647 : Int)) (en := D.int) rfl) (xj_nil (x_go (go_modk rfl)))))
  · exact fun _ => rfl
  · intro piece_16
    apply xs_asg
    · apply xe_n
      · apply xj_e
        · exact xe_n (xj_b rfl (xj_b rfl (xj_nil (x_get rfl (x_get rfl (x_go go_mul))))))
        · intro a_17
          exact xj_p (xe_c (a := (2147483629 : Int)) (en := D.int) rfl) (xj_nil (x_go (go_modk rfl)))
    · exact fun _ => rfl
    · intro piece_18
      apply xs_last
      · apply xs_asg
        · apply xe_n
          · apply xj_p
            · exact xe_n (xj_b rfl (xj_p (xe_c (a := (2147483647 : Int)) (en := D.int) rfl) (xj_nil (x_get rfl (x_go (go_mulr rfl))))))
            · apply xj_e
              · apply xe_n
                · apply xj_e
                  · exact xe_n (xj_b rfl (xj_p (xe_n (xj_b rfl (xj_p (xe_c (a := (13 : Int)) (en := D.int) rfl) (xj_nil (x_get rfl (x_go go_add)))))) (xj_nil (x_get rfl (x_go go_mul)))))
                  · intro a_19
                    exact xj_p (xe_c (a := (2147483647 : Int)) (en := D.int) rfl) (xj_nil (x_go (go_modk rfl)))
              · intro a_20
                exact xj_nil (x_go go_add)
        · exact fun _ => rfl
        · intro number_21
          apply xs_nx (s := number_21)
          · exact fle_c .r (fle_c .r (fle_c .r (fle_c .r (fle_c .sa (fle_c .sa fle_nil)))))
def y__law_box (script_1 : (List Int)) (k_2 : Int) : O (List Int) := finR (σ := Unit) (κ := Unit)
    (lt (((7919 : Int) * k_2) + (13 : Int)) fun here_3 =>
    (seqF (σ1 := (Int)) (if (decide (k_2 < (script_1.length : Int))) then (bnd (ixO script_1 k_2) fun here_5 =>
    (.ok (.nx here_5)))
    else (.ok (.nx here_3))) fun j_6 =>
    (if ((j_6 % (2 : Int)) == (0 : Int)) then (.ok (.rt ([(j_6 / (2 : Int)), ((iabs j_6) % (2147483647 : Int))] : (List Int))))
    else (seqF (σ1 := (Int)) (bnd (rng1 (16 : Int)) fun a_7 => forF (yl__law_box_1 j_6) a_7 (0 : Int)) fun j_22 =>
    (.ok (.rt ([j_22, ((iabs j_6) % (2147483647 : Int))] : (List Int))))))))
theorem r__law_box (script_1 : (List Int)) (k_2 : Int) : RFk rs__law_box (m__law_box [(eR D.int) script_1, D.int k_2]) (y__law_box script_1 k_2) := by
  unfold m__law_box y__law_box b__law_box
  refine x_def (fr := [.s ((eR D.int) script_1), .s (D.int k_2), .any, .any, .any, .any]) (F := (fun _ => [.any, .any, .any, .any, .any, .any])) (G := fun _ => []) (show Fits _ [some (.sh ((eR D.int) script_1)), some (.sh (D.int k_2)), none, none, none, none] from (.cons rfl (.cons rfl (.cons trivial (.cons trivial (.cons trivial (.cons trivial .nil))))))) ?_ rfl (.inl rfl)
  apply xs_let
  · exact xe_n (xj_p (xe_n (xj_p (xe_c (a := (7919 : Int)) (en := D.int) rfl) (xj_b rfl (xj_nil (x_get rfl (x_go (go_mull rfl))))))) (xj_p (xe_c (a := (13 : Int)) (en := D.int) rfl) (xj_nil (x_go go_add))))
  · exact fun _ => rfl
  · intro here_3
    apply xs_seq (F1 := fun (j_6 : (Int)) => [.s ((eR D.int) script_1), .s (D.int k_2), .s (D.int j_6), .any, .any, .any])
    · apply xs_if
      · apply xt_b1 (b := id)
        · exact xe_n (xj_b rfl (xj_p (xe_n (xj_b rfl (xj_nil (x_get rfl (x_go go_lenR))))) (xj_nil (x_get rfl (x_go go_lt)))))
        · exact fun _ => rfl
      · apply xs_last
        · apply xs_asg
          · exact xe_n (xj_b rfl (xj_b rfl (xj_nil (x_get rfl (x_get rfl (x_go go_ixR))))))
          · exact fun _ => rfl
          · intro here_5
            apply xs_nx (s := here_5)
            · exact fle_c .r (fle_c .r (fle_c .r (fle_c .r (fle_c .r (fle_c .r fle_nil)))))
      · apply xs_nx (s := here_3)
        · exact fle_c .r (fle_c .r (fle_c .r (fle_c .r (fle_c .r (fle_c .r fle_nil)))))
    · intro j_6
      apply xs_ifd
      · apply xs_if
        · apply xt_b1 (b := id)
          · exact xe_n (xj_p (xe_n (xj_b rfl (xj_p (xe_c (a := (2 : Int)) (en := D.int) rfl) (xj_nil (x_get rfl (x_go (go_modk rfl))))))) (xj_p (xe_c (a := (0 : Int)) (en := D.int) rfl) (xj_nil (x_go go_eqi))))
          · exact fun _ => rfl
        · exact xs_retP (r := ([(j_6 / (2 : Int)), ((iabs j_6) % (2147483647 : Int))] : (List Int))) (xe_n (xj_p (xe_n (xj_b rfl (xj_p (xe_c (a := (2 : Int)) (en := D.int) rfl) (xj_nil (x_get rfl (x_go (go_divk rfl))))))) (xj_p (xe_n (xj_p (xe_n (xj_b rfl (xj_nil (x_get rfl (x_go go_abs))))) (xj_p (xe_c (a := (2147483647 : Int)) (en := D.int) rfl) (xj_nil (x_go (go_modk rfl)))))) (xj_nil (x_go (go_lst (a := ([(j_6 / (2 : Int)), ((iabs j_6) % (2147483647 : Int))] : (List Int))) (en := (eL D.int)) rfl rfl)))))) rfl (.inl rfl) rfl
        · apply xs_pass
          · apply xs_asgP
            · exact xe_c (a := (0 : Int)) (en := D.int) rfl
            · exact rfl
            · apply xs_seq
              · apply xs_for (xs := fun (a_7 : ((List Int))) => a_7) (s0 := fun (a_7 : ((List Int))) => (0 : Int)) (body := yl__law_box_1 j_6) (enα := D.int) (Fl := fun (s_15 : (Int)) => [.s ((eR D.int) script_1), .s (D.int k_2), .s (D.int j_6), .s (D.int s_15), .any, .any]) (Fb := fun (x_14 : Int) (s_15 : (Int)) => [.s ((eR D.int) script_1), .s (D.int k_2), .s (D.int j_6), .s (D.int s_15), .s (D.int x_14), .any])
                · exact xi_g (xj_p (xe_c (a := (16 : Int)) (en := D.int) rfl) (xj_nil (x_gl gl_r1)))
                · exact fun a_7 => (fle_c .r (fle_c .r (fle_c .r (fle_c .r (fle_c .r (fle_c .r fle_nil))))))
                · exact fun x_14 s_15 => tg_n rfl
                · exact fun x_14 s_15 => rl__law_box_1 script_1 k_2 j_6 x_14 s_15
              · intro j_22
                exact xs_last (xs_retP (r := ([j_22, ((iabs j_6) % (2147483647 : Int))] : (List Int))) (xe_n (xj_p (xe_s (a := j_22) (en := D.int) rfl) (xj_p (xe_n (xj_p (xe_n (xj_b rfl (xj_nil (x_get rfl (x_go go_abs))))) (xj_p (xe_c (a := (2147483647 : Int)) (en := D.int) rfl) (xj_nil (x_go (go_modk rfl)))))) (xj_nil (x_go (go_lst (a := ([j_22, ((iabs j_6) % (2147483647 : Int))] : (List Int))) (en := (eL D.int)) rfl rfl)))))) rfl (.inl rfl) rfl)
abbrev rs__law_more : RS (Int × (List Int)) := ⟨.s, (fun p => D.int p.1), some 0, (fun p => (eL D.int) p.2)⟩
def yl__law_more_1 (x_12 : Int) (s_13 : ((List Int) × Int)) : O (Fw ((List Int) × Int) ((List Int) × Int) (Int × (List Int))) :=
    (bnd (bnd (bnd (bnd (ixO s_13.1 (1 : Int)) fun a_14 =>
      (.ok (a_14 * (48271 : Int)))) fun a_15 =>
      (.ok (a_15 + (30269 : Int)))) fun a_16 =>
      (.ok (a_16 % (2147483647 : Int)))) fun a_17 =>
    (bnd (setO s_13.1 (1 : Int) a_17) fun box_here_18 =>
    (bnd (bnd (bnd (bnd (ixO box_here_18 (1 : Int)) fun a_19 =>
      (.ok (a_19 / (7 : Int)))) fun a_20 =>
      (.ok (a_20 % (65521 : Int)))) fun a_21 =>
      (.ok ((s_13.2 * (65521 : Int)) + a_21))) fun number_22 =>
    (.ok (.nx (box_here_18, number_22))))))
theorem rl__law_more_1 (x_12 : Int) (s_13 : ((List Int) × Int)) : XS [.m ((eL D.int) s_13.1), .s (D.int s_13.2), .s (D.int x_12)] l__law_more_1 (yl__law_more_1 x_12 s_13) (fun s_13 => [.m ((eL D.int) s_13.1), .s (D.int s_13.2), .any]) (fun s_13 => [.m ((eL D.int) s_13.1), .s (D.int s_13.2), .any]) rs__law_more := by
  unfold l__law_more_1 yl__law_more_1
  apply xs_st
  · apply sj_e
    · apply xe_n
      · apply xj_e
        · apply xe_n
          · apply xj_e
            · apply xe_n
              · apply xj_e
                · exact xe_n (xj_b rfl (xj_p (xe_c (a := (1 : Int)) (en := D.int) rfl) (xj_nil (x_get rfl (x_go go_ixL)))))
                · intro a_14
                  exact xj_p (xe_c (a := (48271 : Int)) (en := D.int) rfl) (xj_nil (x_go (go_mulr rfl)))
            · intro a_15
              exact xj_p (xe_c (a := (30269 : Int)) (en := D.int) rfl) (xj_nil (x_go go_add))
        · intro a_16
          exact xj_p (xe_c (a := (2147483647 : Int)) (en := D.int) rfl) (xj_nil (x_go (go_modk rfl)))
    · intro a_17
      apply sj_b
      · exact rfl
      · apply sj_p
        · exact xe_c (a := (1 : Int)) (en := D.int) rfl
        · apply sj_nil
          · apply s_get
            · exact rfl
            · apply s_put
              · exact rfl
              · exact .inr rfl
              · exact gs_set
              · intro box_here_18
                apply xs_last
                · apply xs_asg
                  · apply xe_n
                    · apply xj_p
                      · exact xe_n (xj_b rfl (xj_p (xe_c (a := (65521 : Int)) (en := D.int) rfl) (xj_nil (x_get rfl (x_go (go_mulr rfl))))))
                      · apply xj_e
                        · apply xe_n
                          · apply xj_e
                            · apply xe_n
                              · apply xj_e
                                · exact xe_n (xj_b rfl (xj_p (xe_c (a := (1 : Int)) (en := D.int) rfl) (xj_nil (x_get rfl (x_go go_ixL)))))
                                · intro a_19
                                  exact xj_p (xe_c (a := (7 : Int)) (en := D.int) rfl) (xj_nil (x_go (go_divk rfl)))
                            · intro a_20
                              exact xj_p (xe_c (a := (65521 : Int)) (en := D.int) rfl) (xj_nil (x_go (go_modk rfl)))
                        · intro a_21
                          exact xj_nil (x_go go_add)
                  · exact fun _ => rfl
                  · intro number_22
                    apply xs_nx (s := (box_here_18, number_22))
                    · exact fle_c .r (fle_c .r (fle_c .sa fle_nil))
def y__law_more (box_here_1 : (List Int)) : O (Int × (List Int)) := finRM (σ := (List Int)) (κ := Unit)
    (seqF (σ1 := ((List Int) × Int)) (bnd (rng1 (12 : Int)) fun a_2 => forF (yl__law_more_1) a_2 (box_here_1, (0 : Int))) fun j_23 =>
    (.ok (.rt (j_23.2, j_23.1))))
theorem r__law_more (box_here_1 : (List Int)) : RFk rs__law_more (m__law_more [(eL D.int) box_here_1]) (y__law_more box_here_1) := by
  unfold m__law_more y__law_more b__law_more
  refine x_defM (fr := [.m ((eL D.int) box_here_1), .any, .any]) (H := (fun o => [.m ((eL D.int) o), .any, .any])) (G := fun _ => []) (show Fits _ [some (.mu ((eL D.int) box_here_1)), none, none] from (.cons rfl (.cons trivial (.cons trivial .nil)))) ?_ rfl 
  apply xs_asgP
  · exact xe_c (a := (0 : Int)) (en := D.int) rfl
  · exact rfl
  · apply xs_seq
    · apply xs_for (xs := fun (a_2 : ((List Int))) => a_2) (s0 := fun (a_2 : ((List Int))) => (box_here_1, (0 : Int))) (body := yl__law_more_1) (enα := D.int) (Fl := fun (s_13 : ((List Int) × Int)) => [.m ((eL D.int) s_13.1), .s (D.int s_13.2), .any]) (Fb := fun (x_12 : Int) (s_13 : ((List Int) × Int)) => [.m ((eL D.int) s_13.1), .s (D.int s_13.2), .s (D.int x_12)])
      · exact xi_g (xj_p (xe_c (a := (12 : Int)) (en := D.int) rfl) (xj_nil (x_gl gl_r1)))
      · exact fun a_2 => (fle_c .r (fle_c .r (fle_c .r fle_nil)))
      · exact fun x_12 s_13 => tg_n rfl
      · exact fun x_12 s_13 => rl__law_more_1 x_12 s_13
    · intro j_23
      exact xs_last (xs_retV (r := (j_23.2, j_23.1)) rfl (.inl ⟨rfl, .inl rfl⟩) rfl rfl)
abbrev rs__law_take : RS (Int × (List Int)) := ⟨.s, (fun p => D.int p.1), some 0, (fun p => (eL D.int) p.2)⟩
def y__law_take (box_here_1 : (List Int)) (count_2 : Int) : O (Int × (List Int)) := finRM (σ := (List Int)) (κ := Unit)
    (seqF (σ1 := ((List Int))) (bnd (bnd (ixO box_here_1 (0 : Int)) fun a_3 =>
      (.ok (decide ((0 : Int) ≤ a_3) && (decide (a_3 < count_2))))) fun a_4 =>
    if a_4 then (bnd (bnd (ixO box_here_1 (0 : Int)) fun a_14 =>
      (bnd (bnd (y__law_more box_here_1) fun a_15 =>
      (bnd (mulO count_2 a_15.1) fun r_16 => .ok (r_16, a_15.2))) fun a_18 =>
      (.ok ((a_14 + a_18.1), a_18.2)))) fun a_21 =>
    (bnd (setO a_21.2 (0 : Int) a_21.1) fun box_here_22 =>
    (.ok (.nx box_here_22))))
    else (.ok (.nx box_here_1))) fun j_23 =>
    (bnd (bnd (ixO j_23 (0 : Int)) fun a_24 =>
      (divmodO a_24 count_2)) fun u_25 =>
    (bnd (setO j_23 (0 : Int) u_25.1) fun box_here_26 =>
    (.ok (.rt (u_25.2, box_here_26))))))
theorem r__law_take (box_here_1 : (List Int)) (count_2 : Int) : RFk rs__law_take (m__law_take [(eL D.int) box_here_1, D.int count_2]) (y__law_take box_here_1 count_2) := by
  unfold m__law_take y__law_take b__law_take
  refine x_defM (fr := [.m ((eL D.int) box_here_1), .s (D.int count_2), .any, .any]) (H := (fun o => [.m ((eL D.int) o), .any, .any, .any])) (G := fun _ => []) (show Fits _ [some (.mu ((eL D.int) box_here_1)), some (.sh (D.int count_2)), none, none] from (.cons rfl (.cons rfl (.cons trivial (.cons trivial .nil))))) ?_ rfl 
  apply xs_seq (F1 := fun (j_23 : ((List Int))) => [.m ((eL D.int) j_23), .s (D.int count_2), .any, .any])
  · apply xs_ifE
    · apply xt_b1
      · apply xe_ch
        · apply xj_p
          · exact xe_c (a := (0 : Int)) (en := D.int) rfl
          · apply xj_e
            · exact xe_n (xj_b rfl (xj_p (xe_c (a := (0 : Int)) (en := D.int) rfl) (xj_nil (x_get rfl (x_go go_ixL)))))
            · intro a_3
              exact xj_nil (x_kCh (xj_b rfl (xj_nil (x_get rfl x_kCh2))))
      · exact fun _ => rfl
    · intro a_4
      apply xs_last
      · apply xs_st
        · apply sj_e
          · apply xe_n
            · apply xj_e
              · exact xe_n (xj_b rfl (xj_p (xe_c (a := (0 : Int)) (en := D.int) rfl) (xj_nil (x_get rfl (x_go go_ixL)))))
              · intro a_14
                apply xj_e
                · apply xe_n
                  · apply xj_b
                    · exact rfl
                    · apply xj_e
                      · exact xe_ca (xj_b rfl (xj_nil (x_get rfl (x_caM (rs := rs__law_more) (i := 0) (r__law_more box_here_1) rfl rfl rfl rfl))))
                      · intro a_15
                        apply xj_nil
                        · apply xe_map (k := (fun (r_16 : Int) => (r_16, a_15.2))) (en' := (fun (a_17 : (Int × (List Int))) => D.int a_17.1)) (F := (fun (a_17 : (Int × (List Int))) => [.m ((eL D.int) a_17.2), .s (D.int count_2), .any, .any]))
                          · exact x_get rfl (x_go go_mul)
                          · exact fun _ => rfl
                          · exact fun _ => fle_r
                · intro a_18
                  apply xj_nil
                  · apply xe_mapP (r := ((a_14 + a_18.1), a_18.2)) (en' := (fun (a_20 : (Int × (List Int))) => D.int a_20.1)) (F := (fun (a_20 : (Int × (List Int))) => [.m ((eL D.int) a_20.2), .s (D.int count_2), .any, .any]))
                    · exact x_go go_add
                    · exact rfl
                    · exact fle_r
          · intro a_21
            apply sj_b
            · exact rfl
            · apply sj_p
              · exact xe_c (a := (0 : Int)) (en := D.int) rfl
              · apply sj_nil
                · apply s_get
                  · exact rfl
                  · apply s_put
                    · exact rfl
                    · exact .inr rfl
                    · exact gs_set
                    · intro box_here_22
                      apply xs_nx (s := box_here_22)
                      · exact fle_c .r (fle_c .r (fle_c .r (fle_c .r fle_nil)))
    · intro a_4
      apply xs_nx (s := box_here_1)
      · exact fle_c .r (fle_c .r (fle_c .r (fle_c .r fle_nil)))
  · intro j_23
    apply xs_unp
    · apply xe_n
      · apply xj_e
        · exact xe_n (xj_b rfl (xj_p (xe_c (a := (0 : Int)) (en := D.int) rfl) (xj_nil (x_get rfl (x_go go_ixL)))))
        · intro a_24
          exact xj_b rfl (xj_nil (x_get rfl (x_go go_divmod)))
    · exact fun u_25 => (tg_t (tg_c (tg_n rfl) (tg_c (tg_n rfl) tg_0)))
    · intro u_25
      apply xs_st
      · apply sj_p
        · exact xe_s (a := u_25.1) (en := D.int) rfl
        · apply sj_b
          · exact rfl
          · apply sj_p
            · exact xe_c (a := (0 : Int)) (en := D.int) rfl
            · apply sj_nil
              · apply s_get
                · exact rfl
                · apply s_put
                  · exact rfl
                  · exact .inr rfl
                  · exact gs_set
                  · intro box_here_26
                    exact xs_last (xs_retV (r := (u_25.2, box_here_26)) rfl (.inl ⟨rfl, .inl rfl⟩) rfl rfl)
abbrev rs__law_sea : RS ((List (List Int)) × (List Int)) := ⟨.s, (fun p => (eT (eT D.int)) p.1), some 0, (fun p => (eL D.int) p.2)⟩
def yl__law_sea_1 (way_12 : (Int × (List Int))) (x_100 : Int) (s_101 : ((List Int) × (List Int))) : O (Fw ((List Int) × (List Int)) ((List Int) × (List Int)) ((List (List Int)) × (List Int))) :=
    (bnd (bnd (bnd (bnd (y__law_take s_101.1 (9 : Int)) fun a_102 =>
      (.ok (((1 : Int) + a_102.1), a_102.2))) fun a_105 =>
      (.ok (([(9 : Int), (5 : Int), (3 : Int), a_105.1] : (List Int)), a_105.2))) fun a_108 =>
      (bnd (y__law_take a_108.2 (4 : Int)) fun a_109 =>
      (bnd (ixO a_108.1 a_109.1) fun r_110 => .ok (r_110, a_109.2)))) fun depth_112 =>
    (seqF (σ1 := ((List Int) × Int)) (bnd (bnd (bnd (ixO ([(9 : Int), (4 : Int), (30 : Int), (2 : Int)] : (List Int)) way_12.1) fun a_113 =>
      (y__law_take depth_112.2 a_113)) fun a_114 =>
      (.ok ((a_114.1 == (0 : Int)), a_114.2))) fun a_117 =>
    if a_117.1 then (bnd (bnd (y__law_take a_117.2 (4 : Int)) fun a_122 =>
      (bnd (ixO ([(0 : Int), (0 : Int), (1 : Int), (2 : Int)] : (List Int)) a_122.1) fun r_123 => .ok (r_123, a_122.2))) fun depth_125 =>
    (.ok (.nx (depth_125.2, depth_125.1))))
    else (.ok (.nx (a_117.2, depth_112.1)))) fun j_126 =>
    (bnd (appO s_101.2 j_126.2) fun a_127 =>
    (.ok (.nx (j_126.1, a_127))))))
theorem rl__law_sea_1 (wide_2 : Int) (high_3 : Int) (columns_7 : (Int × (List Int))) (rows_11 : (Int × (List Int))) (way_12 : (Int × (List Int))) (x_71 : Int) (s_72 : ((List Int) × (List (List Int)))) (x_100 : Int) (s_101 : ((List Int) × (List Int))) : XS [.m ((eL D.int) s_101.1), .s (D.int wide_2), .s (D.int high_3), .s (D.int columns_7.1), .s (D.int rows_11.1), .s (D.int way_12.1), .o ((eL (eT D.int)) s_72.2), .s (D.int x_71), .o ((eL D.int) s_101.2), .s (D.int x_100), .any] l__law_sea_1 (yl__law_sea_1 way_12 x_100 s_101) (fun s_101 => [.m ((eL D.int) s_101.1), .s (D.int wide_2), .s (D.int high_3), .s (D.int columns_7.1), .s (D.int rows_11.1), .s (D.int way_12.1), .o ((eL (eT D.int)) s_72.2), .s (D.int x_71), .o ((eL D.int) s_101.2), .any, .any]) (fun s_101 => [.m ((eL D.int) s_101.1), .s (D.int wide_2), .s (D.int high_3), .s (D.int columns_7.1), .s (D.int rows_11.1), .s (D.int way_12.1), .o ((eL (eT D.int)) s_72.2), .s (D.int x_71), .o ((eL D.int) s_101.2), .any, .any]) rs__law_sea := by
  unfold l__law_sea_1 yl__law_sea_1
  apply xs_asg
  · apply xe_n
    · apply xj_e
      · apply xe_n
        · apply xj_p
          · exact xe_c (a := (9 : Int)) (en := D.int) rfl
          · apply xj_p
            · exact xe_c (a := (5 : Int)) (en := D.int) rfl
            · apply xj_p
              · exact xe_c (a := (3 : Int)) (en := D.int) rfl
              · apply xj_e
                · apply xe_n
                  · apply xj_p
                    · exact xe_c (a := (1 : Int)) (en := D.int) rfl
                    · apply xj_e
                      · exact xe_ca (xj_b rfl (xj_p (xe_c (a := (9 : Int)) (en := D.int) rfl) (xj_nil (x_get rfl (x_caM (rs := rs__law_take) (i := 0) (r__law_take s_101.1 (9 : Int)) rfl rfl rfl rfl)))))
                      · intro a_102
                        apply xj_nil
                        · apply xe_mapP (r := (((1 : Int) + a_102.1), a_102.2)) (en' := (fun (a_104 : (Int × (List Int))) => D.int a_104.1)) (F := (fun (a_104 : (Int × (List Int))) => [.m ((eL D.int) a_104.2), .s (D.int wide_2), .s (D.int high_3), .s (D.int columns_7.1), .s (D.int rows_11.1), .s (D.int way_12.1), .o ((eL (eT D.int)) s_72.2), .s (D.int x_71), .o ((eL D.int) s_101.2), .s (D.int x_100), .any]))
                          · exact x_go go_add
                          · exact rfl
                          · exact fle_r
                · intro a_105
                  apply xj_nil
                  · apply xe_mapP (r := (([(9 : Int), (5 : Int), (3 : Int), a_105.1] : (List Int)), a_105.2)) (en' := (fun (a_107 : ((List Int) × (List Int))) => (eL D.int) a_107.1)) (F := (fun (a_107 : ((List Int) × (List Int))) => [.m ((eL D.int) a_107.2), .s (D.int wide_2), .s (D.int high_3), .s (D.int columns_7.1), .s (D.int rows_11.1), .s (D.int way_12.1), .o ((eL (eT D.int)) s_72.2), .s (D.int x_71), .o ((eL D.int) s_101.2), .s (D.int x_100), .any]))
                    · exact x_go (go_lst (a := ([(9 : Int), (5 : Int), (3 : Int), a_105.1] : (List Int))) (en := (eL D.int)) rfl rfl)
                    · exact rfl
                    · exact fle_r
      · intro a_108
        apply xj_e
        · exact xe_ca (xj_b rfl (xj_p (xe_c (a := (4 : Int)) (en := D.int) rfl) (xj_nil (x_get rfl (x_caM (rs := rs__law_take) (i := 0) (r__law_take a_108.2 (4 : Int)) rfl rfl rfl rfl)))))
        · intro a_109
          apply xj_nil
          · apply xe_map (k := (fun (r_110 : Int) => (r_110, a_109.2))) (en' := (fun (a_111 : (Int × (List Int))) => D.int a_111.1)) (F := (fun (a_111 : (Int × (List Int))) => [.m ((eL D.int) a_111.2), .s (D.int wide_2), .s (D.int high_3), .s (D.int columns_7.1), .s (D.int rows_11.1), .s (D.int way_12.1), .o ((eL (eT D.int)) s_72.2), .s (D.int x_71), .o ((eL D.int) s_101.2), .s (D.int x_100), .any]))
            · exact x_go go_ixL
            · exact fun _ => rfl
            · exact fun _ => fle_r
  · exact fun _ => rfl
  · intro depth_112
    apply xs_seq (F1 := fun (j_126 : ((List Int) × Int)) => [.m ((eL D.int) j_126.1), .s (D.int wide_2), .s (D.int high_3), .s (D.int columns_7.1), .s (D.int rows_11.1), .s (D.int way_12.1), .o ((eL (eT D.int)) s_72.2), .s (D.int x_71), .o ((eL D.int) s_101.2), .s (D.int x_100), .s (D.int j_126.2)])
    · apply xs_ifE
      · apply xt_b1
        · apply xe_n
          · apply xj_e
            · apply xe_ca
              · apply xj_b
                · exact rfl
                · apply xj_e
                  · exact xe_n (xj_p (xe_n (xj_p (xe_c (a := (9 : Int)) (en := D.int) rfl) (xj_p (xe_c (a := (4 : Int)) (en := D.int) rfl) (xj_p (xe_c (a := (30 : Int)) (en := D.int) rfl) (xj_p (xe_c (a := (2 : Int)) (en := D.int) rfl) (xj_nil (x_go (go_lst (a := ([(9 : Int), (4 : Int), (30 : Int), (2 : Int)] : (List Int))) (en := (eL D.int)) rfl rfl)))))))) (xj_b rfl (xj_nil (x_get rfl (x_go go_ixL)))))
                  · intro a_113
                    exact xj_nil (x_get rfl (x_caM (rs := rs__law_take) (i := 0) (r__law_take depth_112.2 a_113) rfl rfl rfl rfl))
            · intro a_114
              apply xj_p
              · exact xe_c (a := (0 : Int)) (en := D.int) rfl
              · apply xj_nil
                · apply xe_mapP (r := ((a_114.1 == (0 : Int)), a_114.2)) (en' := (fun (a_116 : (Bool × (List Int))) => D.bl a_116.1)) (F := (fun (a_116 : (Bool × (List Int))) => [.m ((eL D.int) a_116.2), .s (D.int wide_2), .s (D.int high_3), .s (D.int columns_7.1), .s (D.int rows_11.1), .s (D.int way_12.1), .o ((eL (eT D.int)) s_72.2), .s (D.int x_71), .o ((eL D.int) s_101.2), .s (D.int x_100), .s (D.int depth_112.1)]))
                  · exact x_go go_eqi
                  · exact rfl
                  · exact fle_r
        · exact fun _ => rfl
      · intro a_117
        apply xs_last
        · apply xs_asg
          · apply xe_n
            · apply xj_p
              · exact xe_n (xj_p (xe_c (a := (0 : Int)) (en := D.int) rfl) (xj_p (xe_c (a := (0 : Int)) (en := D.int) rfl) (xj_p (xe_c (a := (1 : Int)) (en := D.int) rfl) (xj_p (xe_c (a := (2 : Int)) (en := D.int) rfl) (xj_nil (x_go (go_lst (a := ([(0 : Int), (0 : Int), (1 : Int), (2 : Int)] : (List Int))) (en := (eL D.int)) rfl rfl)))))))
              · apply xj_e
                · exact xe_ca (xj_b rfl (xj_p (xe_c (a := (4 : Int)) (en := D.int) rfl) (xj_nil (x_get rfl (x_caM (rs := rs__law_take) (i := 0) (r__law_take a_117.2 (4 : Int)) rfl rfl rfl rfl)))))
                · intro a_122
                  apply xj_nil
                  · apply xe_map (k := (fun (r_123 : Int) => (r_123, a_122.2))) (en' := (fun (a_124 : (Int × (List Int))) => D.int a_124.1)) (F := (fun (a_124 : (Int × (List Int))) => [.m ((eL D.int) a_124.2), .s (D.int wide_2), .s (D.int high_3), .s (D.int columns_7.1), .s (D.int rows_11.1), .s (D.int way_12.1), .o ((eL (eT D.int)) s_72.2), .s (D.int x_71), .o ((eL D.int) s_101.2), .s (D.int x_100), .s (D.int depth_112.1)]))
                    · exact x_go go_ixL
                    · exact fun _ => rfl
                    · exact fun _ => fle_r
          · exact fun _ => rfl
          · intro depth_125
            apply xs_nx (s := (depth_125.2, depth_125.1))
            · exact fle_c .r (fle_c .r (fle_c .r (fle_c .r (fle_c .r (fle_c .r (fle_c .r (fle_c .r (fle_c .r (fle_c .r (fle_c .r fle_nil))))))))))
      · intro a_117
        apply xs_nx (s := (a_117.2, depth_112.1))
        · exact fle_c .r (fle_c .r (fle_c .r (fle_c .r (fle_c .r (fle_c .r (fle_c .r (fle_c .r (fle_c .r (fle_c .r (fle_c .r fle_nil))))))))))
    · intro j_126
      apply xs_last
      · apply xs_exp
        · exact xe_mut rfl (.inl rfl) rfl (xj_p (xe_s (a := j_126.2) (en := D.int) rfl) (xj_nil (x_kM2 rfl (.inl rfl) gm_app)))
        · intro a_127
          apply xs_nx (s := (j_126.1, a_127))
          · exact fle_c .r (fle_c .r (fle_c .r (fle_c .r (fle_c .r (fle_c .r (fle_c .r (fle_c .r (fle_c .r (fle_c .sa (fle_c .sa fle_nil))))))))))
def yl__law_sea_2 (rows_11 : (Int × (List Int))) (way_12 : (Int × (List Int))) (x_71 : Int) (s_72 : ((List Int) × (List (List Int)))) : O (Fw ((List Int) × (List (List Int))) ((List Int) × (List (List Int))) ((List (List Int)) × (List Int))) :=
    (seqF (σ1 := ((List Int) × (List Int))) (bnd (rng1 rows_11.1) fun a_73 => forF (yl__law_sea_1 way_12) a_73 (s_72.1, ([] : (List Int)))) fun j_128 =>
    (bnd (appO s_72.2 j_128.2) fun a_129 =>
    (.ok (.nx (j_128.1, a_129)))))
theorem rl__law_sea_2 (wide_2 : Int) (high_3 : Int) (columns_7 : (Int × (List Int))) (rows_11 : (Int × (List Int))) (way_12 : (Int × (List Int))) (x_71 : Int) (s_72 : ((List Int) × (List (List Int)))) : XS [.m ((eL D.int) s_72.1), .s (D.int wide_2), .s (D.int high_3), .s (D.int columns_7.1), .s (D.int rows_11.1), .s (D.int way_12.1), .o ((eL (eT D.int)) s_72.2), .s (D.int x_71), .any, .any, .any] l__law_sea_2 (yl__law_sea_2 rows_11 way_12 x_71 s_72) (fun s_72 => [.m ((eL D.int) s_72.1), .s (D.int wide_2), .s (D.int high_3), .s (D.int columns_7.1), .s (D.int rows_11.1), .s (D.int way_12.1), .o ((eL (eT D.int)) s_72.2), .any, .any, .any, .any]) (fun s_72 => [.m ((eL D.int) s_72.1), .s (D.int wide_2), .s (D.int high_3), .s (D.int columns_7.1), .s (D.int rows_11.1), .s (D.int way_12.1), .o ((eL (eT D.int)) s_72.2), .any, .any, .any, .any]) rs__law_sea := by
  unfold l__law_sea_2 yl__law_sea_2
  apply xs_asgP
  · exact xe_n (xj_nil (x_go (go_lst (a := ([] : (List Int))) (en := (eL D.int)) rfl rfl)))
  · exact rfl
  · apply xs_seq
    · apply xs_for (xs := fun (a_73 : ((List Int))) => a_73) (s0 := fun (a_73 : ((List Int))) => (s_72.1, ([] : (List Int)))) (body := yl__law_sea_1 way_12) (enα := D.int) (Fl := fun (s_101 : ((List Int) × (List Int))) => [.m ((eL D.int) s_101.1), .s (D.int wide_2), .s (D.int high_3), .s (D.int columns_7.1), .s (D.int rows_11.1), .s (D.int way_12.1), .o ((eL (eT D.int)) s_72.2), .s (D.int x_71), .o ((eL D.int) s_101.2), .any, .any]) (Fb := fun (x_100 : Int) (s_101 : ((List Int) × (List Int))) => [.m ((eL D.int) s_101.1), .s (D.int wide_2), .s (D.int high_3), .s (D.int columns_7.1), .s (D.int rows_11.1), .s (D.int way_12.1), .o ((eL (eT D.int)) s_72.2), .s (D.int x_71), .o ((eL D.int) s_101.2), .s (D.int x_100), .any])
      · exact xi_g (xj_p (xe_s (a := rows_11.1) (en := D.int) rfl) (xj_nil (x_gl gl_r1)))
      · exact fun a_73 => (fle_c .r (fle_c .r (fle_c .r (fle_c .r (fle_c .r (fle_c .r (fle_c .r (fle_c .r (fle_c .r (fle_c .r (fle_c .r fle_nil)))))))))))
      · exact fun x_100 s_101 => tg_n rfl
      · exact fun x_100 s_101 => rl__law_sea_1 wide_2 high_3 columns_7 rows_11 way_12 x_71 s_72 x_100 s_101
    · intro j_128
      apply xs_last
      · apply xs_exp
        · exact xe_mut rfl (.inl rfl) rfl (xj_p (xe_n (xj_b rfl (xj_nil (x_get rfl (x_go go_tupL))))) (xj_nil (x_kM2 rfl (.inl rfl) gm_app)))
        · intro a_129
          apply xs_nx (s := (j_128.1, a_129))
          · exact fle_c .r (fle_c .r (fle_c .r (fle_c .r (fle_c .r (fle_c .r (fle_c .r (fle_c .sa (fle_c .oa (fle_c .r (fle_c .r fle_nil))))))))))
def y__law_sea (box_here_1 : (List Int)) (wide_2 : Int) (high_3 : Int) : O ((List (List Int)) × (List Int)) := finRM (σ := (List Int)) (κ := Unit)
    (bnd (bnd (y__law_take box_here_1 (wide_2 - (1 : Int))) fun a_4 =>
      (.ok (((2 : Int) + a_4.1), a_4.2))) fun columns_7 =>
    (bnd (bnd (y__law_take columns_7.2 high_3) fun a_8 =>
      (.ok (((1 : Int) + a_8.1), a_8.2))) fun rows_11 =>
    (bnd (y__law_take rows_11.2 (4 : Int)) fun way_12 =>
    (seqF (σ1 := ((List Int) × (List (List Int)))) (bnd (rng1 columns_7.1) fun a_13 => forF (yl__law_sea_2 rows_11 way_12) a_13 (way_12.2, ([] : (List (List Int))))) fun j_130 =>
    (.ok (.rt (j_130.2, j_130.1)))))))
theorem r__law_sea (box_here_1 : (List Int)) (wide_2 : Int) (high_3 : Int) : RFk rs__law_sea (m__law_sea [(eL D.int) box_here_1, D.int wide_2, D.int high_3]) (y__law_sea box_here_1 wide_2 high_3) := by
  unfold m__law_sea y__law_sea b__law_sea
  refine x_defM (fr := [.m ((eL D.int) box_here_1), .s (D.int wide_2), .s (D.int high_3), .any, .any, .any, .any, .any, .any, .any, .any]) (H := (fun o => [.m ((eL D.int) o), .any, .any, .any, .any, .any, .any, .any, .any, .any, .any])) (G := fun _ => []) (show Fits _ [some (.mu ((eL D.int) box_here_1)), some (.sh (D.int wide_2)), some (.sh (D.int high_3)), none, none, none, none, none, none, none, none] from (.cons rfl (.cons rfl (.cons rfl (.cons trivial (.cons trivial (.cons trivial (.cons trivial (.cons trivial (.cons trivial (.cons trivial (.cons trivial .nil)))))))))))) ?_ rfl 
  apply xs_par
  · apply xp_e
    · apply xe_n
      · apply xj_p
        · exact xe_c (a := (2 : Int)) (en := D.int) rfl
        · apply xj_e
          · exact xe_ca (xj_b rfl (xj_p (xe_n (xj_b rfl (xj_p (xe_c (a := (1 : Int)) (en := D.int) rfl) (xj_nil (x_get rfl (x_go go_sub)))))) (xj_nil (x_get rfl (x_caM (rs := rs__law_take) (i := 0) (r__law_take box_here_1 (wide_2 - (1 : Int))) rfl rfl rfl rfl)))))
          · intro a_4
            apply xj_nil
            · apply xe_mapP (r := (((2 : Int) + a_4.1), a_4.2)) (en' := (fun (a_6 : (Int × (List Int))) => D.int a_6.1)) (F := (fun (a_6 : (Int × (List Int))) => [.m ((eL D.int) a_6.2), .s (D.int wide_2), .s (D.int high_3), .any, .any, .any, .any, .any, .any, .any, .any]))
              · exact x_go go_add
              · exact rfl
              · exact fle_r
    · intro columns_7
      apply xp_e
      · apply xe_n
        · apply xj_p
          · exact xe_c (a := (1 : Int)) (en := D.int) rfl
          · apply xj_e
            · exact xe_ca (xj_b rfl (xj_p (xe_s (a := high_3) (en := D.int) rfl) (xj_nil (x_get rfl (x_caM (rs := rs__law_take) (i := 0) (r__law_take columns_7.2 high_3) rfl rfl rfl rfl)))))
            · intro a_8
              apply xj_nil
              · apply xe_mapP (r := (((1 : Int) + a_8.1), a_8.2)) (en' := (fun (a_10 : (Int × (List Int))) => D.int a_10.1)) (F := (fun (a_10 : (Int × (List Int))) => [.m ((eL D.int) a_10.2), .s (D.int wide_2), .s (D.int high_3), .any, .any, .any, .any, .any, .any, .any, .any]))
                · exact x_go go_add
                · exact rfl
                · exact fle_r
      · intro rows_11
        apply xp_nil
        · exact rfl
        · exact rfl
        · apply xs_par
          · apply xp_e
            · exact xe_ca (xj_b rfl (xj_p (xe_c (a := (4 : Int)) (en := D.int) rfl) (xj_nil (x_get rfl (x_caM (rs := rs__law_take) (i := 0) (r__law_take rows_11.2 (4 : Int)) rfl rfl rfl rfl)))))
            · intro way_12
              apply xp_p
              · exact xe_n (xj_nil (x_go (go_lst (a := ([] : (List (List Int)))) (en := (eL (eT D.int))) rfl rfl)))
              · apply xp_nil
                · exact rfl
                · exact rfl
                · apply xs_seq
                  · apply xs_for (xs := fun (a_13 : ((List Int))) => a_13) (s0 := fun (a_13 : ((List Int))) => (way_12.2, ([] : (List (List Int))))) (body := yl__law_sea_2 rows_11 way_12) (enα := D.int) (Fl := fun (s_72 : ((List Int) × (List (List Int)))) => [.m ((eL D.int) s_72.1), .s (D.int wide_2), .s (D.int high_3), .s (D.int columns_7.1), .s (D.int rows_11.1), .s (D.int way_12.1), .o ((eL (eT D.int)) s_72.2), .any, .any, .any, .any]) (Fb := fun (x_71 : Int) (s_72 : ((List Int) × (List (List Int)))) => [.m ((eL D.int) s_72.1), .s (D.int wide_2), .s (D.int high_3), .s (D.int columns_7.1), .s (D.int rows_11.1), .s (D.int way_12.1), .o ((eL (eT D.int)) s_72.2), .s (D.int x_71), .any, .any, .any])
                    · exact xi_g (xj_p (xe_s (a := columns_7.1) (en := D.int) rfl) (xj_nil (x_gl gl_r1)))
                    · exact fun a_13 => (fle_c .r (fle_c .r (fle_c .r (fle_c .r (fle_c .r (fle_c .r (fle_c .r (fle_c .r (fle_c .r (fle_c .r (fle_c .r fle_nil)))))))))))
                    · exact fun x_71 s_72 => tg_n rfl
                    · exact fun x_71 s_72 => rl__law_sea_2 wide_2 high_3 columns_7 rows_11 way_12 x_71 s_72
                  · intro j_130
                    exact xs_last (xs_retP (r := (j_130.2, j_130.1)) (xe_n (xj_b rfl (xj_nil (x_get rfl (x_go go_tupL))))) rfl (.inl rfl) rfl)
abbrev rs__law_cell_of : RS ((Int × Int) × (List Int)) := ⟨.s, (fun p => (eP2 D.int D.int) p.1), some 0, (fun p => (eL D.int) p.2)⟩
def y__law_cell_of (box_here_1 : (List Int)) (sea_here_2 : (List (List Int))) : O ((Int × Int) × (List Int)) := finRM (σ := (List Int)) (κ := Unit)
    (bnd (bnd (y__law_take box_here_1 (sea_here_2.length : Int)) fun a_3 =>
      (bnd (bnd (bnd (ixO sea_here_2 (0 : Int)) fun a_4 =>
      (.ok (a_4.length : Int))) fun a_5 =>
      (y__law_take a_3.2 a_5)) fun a_6 =>
      (.ok ((a_3.1, a_6.1), a_6.2)))) fun a_9 => .ok (.rt (a_9.1, a_9.2)))
theorem r__law_cell_of (box_here_1 : (List Int)) (sea_here_2 : (List (List Int))) : RFk rs__law_cell_of (m__law_cell_of [(eL D.int) box_here_1, (eT (eT D.int)) sea_here_2]) (y__law_cell_of box_here_1 sea_here_2) := by
  unfold m__law_cell_of y__law_cell_of b__law_cell_of
  refine x_defM (fr := [.m ((eL D.int) box_here_1), .s ((eT (eT D.int)) sea_here_2)]) (H := (fun o => [.m ((eL D.int) o), .any])) (G := fun _ => []) (show Fits _ [some (.mu ((eL D.int) box_here_1)), some (.sh ((eT (eT D.int)) sea_here_2))] from (.cons rfl (.cons rfl .nil))) ?_ rfl 
  apply xs_last
  · apply xs_ret (r := fun (a_9 : ((Int × Int) × (List Int))) => (a_9.1, a_9.2))
    · apply xe_n
      · apply xj_e
        · exact xe_ca (xj_b rfl (xj_p (xe_n (xj_b rfl (xj_nil (x_get rfl (x_go go_lenT))))) (xj_nil (x_get rfl (x_caM (rs := rs__law_take) (i := 0) (r__law_take box_here_1 (sea_here_2.length : Int)) rfl rfl rfl rfl)))))
        · intro a_3
          apply xj_e
          · apply xe_ca
            · apply xj_b
              · exact rfl
              · apply xj_e
                · apply xe_n
                  · apply xj_e
                    · exact xe_n (xj_b rfl (xj_p (xe_c (a := (0 : Int)) (en := D.int) rfl) (xj_nil (x_get rfl (x_go go_ixT)))))
                    · intro a_4
                      exact xj_nil (x_go go_lenT)
                · intro a_5
                  exact xj_nil (x_get rfl (x_caM (rs := rs__law_take) (i := 0) (r__law_take a_3.2 a_5) rfl rfl rfl rfl))
          · intro a_6
            apply xj_nil
            · apply xe_mapP (r := ((a_3.1, a_6.1), a_6.2)) (en' := (fun (a_8 : ((Int × Int) × (List Int))) => (eP2 D.int D.int) a_8.1)) (F := (fun (a_8 : ((Int × Int) × (List Int))) => [.m ((eL D.int) a_8.2), .s ((eT (eT D.int)) sea_here_2)]))
              · exact x_go (go_tup (a := (a_3.1, a_6.1)) (en := (eP2 D.int D.int)) rfl rfl)
              · exact rfl
              · exact fle_r
    · exact fun _ => rfl
    · exact .inl rfl
    · exact fun _ => rfl
abbrev rs__law_round : RS (List (Int × Int)) := ⟨.o, (eL (eP2 D.int D.int)), none, (fun _ => .non)⟩
def yl__law_round_1 (sea_here_1 : (List (List Int))) (x_69 : (Int × Int)) (s_70 : ((List ((Int × Int) × Bool)))) : O (Fw ((List ((Int × Int) × Bool))) ((List ((Int × Int) × Bool))) (List (Int × Int))) :=
    (seqF (σ1 := ((List ((Int × Int) × Bool)))) (bnd (if (decide ((0 : Int) ≤ x_69.1) && (decide (x_69.1 < (sea_here_1.length : Int)))) then (bnd (if decide ((0 : Int) ≤ x_69.2) then (bnd (bnd (ixO sea_here_1 (0 : Int)) fun a_71 =>
      (.ok (a_71.length : Int))) fun a_72 =>
      (.ok (decide (x_69.2 < a_72)))) else .ok false) fun a_74 => .ok a_74) else .ok false) fun a_76 =>
    if a_76 then (seqF (σ1 := ((List ((Int × Int) × Bool)))) (bnd (bnd (bnd (ixO sea_here_1 x_69.1) fun a_83 =>
      (ixO a_83 x_69.2)) fun a_84 =>
      (.ok (decide ((0 : Int) < a_84)))) fun a_85 =>
    if a_85 then (bnd (putO s_70 x_69 true) fun found_87 =>
    (.ok (.nx found_87)))
    else (.ok (.nx s_70))) fun j_88 =>
    (.ok (.nx j_88)))
    else (.ok (.nx s_70))) fun j_89 =>
    (.ok (.nx j_89)))
theorem rl__law_round_1 (sea_here_1 : (List (List Int))) (cells_2 : (List (Int × Int))) (x_48 : (Int × Int)) (x_69 : (Int × Int)) (s_70 : ((List ((Int × Int) × Bool)))) : XS [.s ((eT (eT D.int)) sea_here_1), .s ((eL (eP2 D.int D.int)) cells_2), .o ((eM kII D.bl) s_70), .any, .s (D.int x_48.1), .s (D.int x_48.2), .s ((eP2 D.int D.int) x_69)] l__law_round_1 (yl__law_round_1 sea_here_1 x_69 s_70) (fun s_70 => [.s ((eT (eT D.int)) sea_here_1), .s ((eL (eP2 D.int D.int)) cells_2), .o ((eM kII D.bl) s_70), .any, .s (D.int x_48.1), .s (D.int x_48.2), .any]) (fun s_70 => [.s ((eT (eT D.int)) sea_here_1), .s ((eL (eP2 D.int D.int)) cells_2), .o ((eM kII D.bl) s_70), .any, .s (D.int x_48.1), .s (D.int x_48.2), .any]) rs__law_round := by
  unfold l__law_round_1 yl__law_round_1
  apply xs_last
  · apply xs_seq (F1 := fun (j_89 : ((List ((Int × Int) × Bool)))) => [.s ((eT (eT D.int)) sea_here_1), .s ((eL (eP2 D.int D.int)) cells_2), .o ((eM kII D.bl) j_89), .any, .s (D.int x_48.1), .s (D.int x_48.2), .s ((eP2 D.int D.int) x_69)])
    · apply xs_ifE
      · apply xt_andPG (r := false)
        · apply xt_b1 (b := id)
          · exact xe_ch (xj_p (xe_c (a := (0 : Int)) (en := D.int) rfl) (xj_p (xe_n (xj_b rfl (xj_p (xe_c (a := (0 : Int)) (en := D.int) rfl) (xj_nil (x_get rfl (x_go (go_ixP (a := x_69.1) (en := D.int) rfl))))))) (xj_nil (x_kCh (xj_p (xe_n (xj_b rfl (xj_nil (x_get rfl (x_go go_lenT))))) (xj_nil x_kCh2))))))
          · exact fun _ => rfl
        · apply xt_map (k := fun (a_74 : Bool) => a_74) (b' := id) (F := (fun (a_75 : Bool) => [.s ((eT (eT D.int)) sea_here_1), .s ((eL (eP2 D.int D.int)) cells_2), .o ((eM kII D.bl) s_70), .any, .s (D.int x_48.1), .s (D.int x_48.2), .s ((eP2 D.int D.int) x_69)]))
          · apply xt_b1
            · apply xe_ch
              · apply xj_p
                · exact xe_c (a := (0 : Int)) (en := D.int) rfl
                · apply xj_p
                  · exact xe_n (xj_b rfl (xj_p (xe_c (a := (1 : Int)) (en := D.int) rfl) (xj_nil (x_get rfl (x_go (go_ixP (a := x_69.2) (en := D.int) rfl))))))
                  · apply xj_nil
                    · apply x_kChE
                      · apply xj_e
                        · apply xe_n
                          · apply xj_e
                            · exact xe_n (xj_b rfl (xj_p (xe_c (a := (0 : Int)) (en := D.int) rfl) (xj_nil (x_get rfl (x_go go_ixT)))))
                            · intro a_71
                              exact xj_nil (x_go go_lenT)
                        · intro a_72
                          exact xj_nil x_kCh2
            · exact fun _ => rfl
          · exact fun _ => rfl
          · exact fun a_74 => (fle_c .r (fle_c .r (fle_c .r (fle_c .r (fle_c .r (fle_c .r (fle_c .r fle_nil)))))))
        · exact rfl
        · exact fle_c .r (fle_c .r (fle_c .r (fle_c .r (fle_c .r (fle_c .r (fle_c .r fle_nil))))))
      · intro a_76
        apply xs_last
        · apply xs_seq (F1 := fun (j_88 : ((List ((Int × Int) × Bool)))) => [.s ((eT (eT D.int)) sea_here_1), .s ((eL (eP2 D.int D.int)) cells_2), .o ((eM kII D.bl) j_88), .any, .s (D.int x_48.1), .s (D.int x_48.2), .s ((eP2 D.int D.int) x_69)])
          · apply xs_ifE
            · apply xt_b1
              · apply xe_n
                · apply xj_e
                  · apply xe_n
                    · apply xj_e
                      · exact xe_n (xj_b rfl (xj_p (xe_n (xj_b rfl (xj_p (xe_c (a := (0 : Int)) (en := D.int) rfl) (xj_nil (x_get rfl (x_go (go_ixP (a := x_69.1) (en := D.int) rfl))))))) (xj_nil (x_get rfl (x_go go_ixT)))))
                      · intro a_83
                        exact xj_p (xe_n (xj_b rfl (xj_p (xe_c (a := (1 : Int)) (en := D.int) rfl) (xj_nil (x_get rfl (x_go (go_ixP (a := x_69.2) (en := D.int) rfl))))))) (xj_nil (x_go go_ixT))
                  · intro a_84
                    exact xj_p (xe_c (a := (0 : Int)) (en := D.int) rfl) (xj_nil (x_go go_gt))
              · exact fun _ => rfl
            · intro a_85
              apply xs_last
              · apply xs_st
                · apply sj_p
                  · exact xe_c (a := true) (en := D.bl) rfl
                  · apply sj_b
                    · exact rfl
                    · apply sj_p
                      · exact xe_s (a := x_69) (en := (eP2 D.int D.int)) rfl
                      · apply sj_nil
                        · apply s_get
                          · exact rfl
                          · apply s_put
                            · exact rfl
                            · exact .inl rfl
                            · exact gs_M kt_II
                            · intro found_87
                              apply xs_nx (s := found_87)
                              · exact fle_c .r (fle_c .r (fle_c .r (fle_c .r (fle_c .r (fle_c .r (fle_c .r fle_nil))))))
            · intro a_85
              apply xs_nx (s := s_70)
              · exact fle_c .r (fle_c .r (fle_c .r (fle_c .r (fle_c .r (fle_c .r (fle_c .r fle_nil))))))
          · intro j_88
            apply xs_nx (s := j_88)
            · exact fle_c .r (fle_c .r (fle_c .r (fle_c .r (fle_c .r (fle_c .r (fle_c .r fle_nil))))))
      · intro a_76
        apply xs_nx (s := s_70)
        · exact fle_c .r (fle_c .r (fle_c .r (fle_c .r (fle_c .r (fle_c .r (fle_c .r fle_nil))))))
    · intro j_89
      apply xs_nx (s := j_89)
      · exact fle_c .r (fle_c .r (fle_c .r (fle_c .r (fle_c .r (fle_c .r (fle_c .sa fle_nil))))))
def yl__law_round_2 (sea_here_1 : (List (List Int))) (x_48 : (Int × Int)) (s_49 : ((List ((Int × Int) × Bool)))) : O (Fw ((List ((Int × Int) × Bool))) ((List ((Int × Int) × Bool))) (List (Int × Int))) :=
    (seqF (σ1 := ((List ((Int × Int) × Bool)))) (forF (yl__law_round_1 sea_here_1) ([((x_48.1 - (1 : Int)), x_48.2), ((x_48.1 + (1 : Int)), x_48.2), (x_48.1, (x_48.2 - (1 : Int))), (x_48.1, (x_48.2 + (1 : Int)))] : (List (Int × Int))) s_49) fun j_90 =>
    (.ok (.nx j_90)))
theorem rl__law_round_2 (sea_here_1 : (List (List Int))) (cells_2 : (List (Int × Int))) (x_48 : (Int × Int)) (s_49 : ((List ((Int × Int) × Bool)))) : XS [.s ((eT (eT D.int)) sea_here_1), .s ((eL (eP2 D.int D.int)) cells_2), .o ((eM kII D.bl) s_49), .any, .s (D.int x_48.1), .s (D.int x_48.2), .any] l__law_round_2 (yl__law_round_2 sea_here_1 x_48 s_49) (fun s_49 => [.s ((eT (eT D.int)) sea_here_1), .s ((eL (eP2 D.int D.int)) cells_2), .o ((eM kII D.bl) s_49), .any, .any, .any, .any]) (fun s_49 => [.s ((eT (eT D.int)) sea_here_1), .s ((eL (eP2 D.int D.int)) cells_2), .o ((eM kII D.bl) s_49), .any, .any, .any, .any]) rs__law_round := by
  unfold l__law_round_2 yl__law_round_2
  apply xs_last
  · apply xs_seq
    · apply xs_forP (xs := ([((x_48.1 - (1 : Int)), x_48.2), ((x_48.1 + (1 : Int)), x_48.2), (x_48.1, (x_48.2 - (1 : Int))), (x_48.1, (x_48.2 + (1 : Int)))] : (List (Int × Int)))) (s0 := s_49) (body := yl__law_round_1 sea_here_1) (enα := (eP2 D.int D.int)) (Fl := fun (s_70 : ((List ((Int × Int) × Bool)))) => [.s ((eT (eT D.int)) sea_here_1), .s ((eL (eP2 D.int D.int)) cells_2), .o ((eM kII D.bl) s_70), .any, .s (D.int x_48.1), .s (D.int x_48.2), .any]) (Fb := fun (x_69 : (Int × Int)) (s_70 : ((List ((Int × Int) × Bool)))) => [.s ((eT (eT D.int)) sea_here_1), .s ((eL (eP2 D.int D.int)) cells_2), .o ((eM kII D.bl) s_70), .any, .s (D.int x_48.1), .s (D.int x_48.2), .s ((eP2 D.int D.int) x_69)])
      · apply xi_v
        · exact xe_n (xj_p (xe_n (xj_p (xe_n (xj_b rfl (xj_p (xe_c (a := (1 : Int)) (en := D.int) rfl) (xj_nil (x_get rfl (x_go go_sub)))))) (xj_p (xe_s (a := x_48.2) (en := D.int) rfl) (xj_nil (x_go (go_tup (a := ((x_48.1 - (1 : Int)), x_48.2)) (en := (eP2 D.int D.int)) rfl rfl)))))) (xj_p (xe_n (xj_p (xe_n (xj_b rfl (xj_p (xe_c (a := (1 : Int)) (en := D.int) rfl) (xj_nil (x_get rfl (x_go go_add)))))) (xj_p (xe_s (a := x_48.2) (en := D.int) rfl) (xj_nil (x_go (go_tup (a := ((x_48.1 + (1 : Int)), x_48.2)) (en := (eP2 D.int D.int)) rfl rfl)))))) (xj_p (xe_n (xj_p (xe_s (a := x_48.1) (en := D.int) rfl) (xj_p (xe_n (xj_b rfl (xj_p (xe_c (a := (1 : Int)) (en := D.int) rfl) (xj_nil (x_get rfl (x_go go_sub)))))) (xj_nil (x_go (go_tup (a := (x_48.1, (x_48.2 - (1 : Int)))) (en := (eP2 D.int D.int)) rfl rfl)))))) (xj_p (xe_n (xj_p (xe_s (a := x_48.1) (en := D.int) rfl) (xj_p (xe_n (xj_b rfl (xj_p (xe_c (a := (1 : Int)) (en := D.int) rfl) (xj_nil (x_get rfl (x_go go_add)))))) (xj_nil (x_go (go_tup (a := (x_48.1, (x_48.2 + (1 : Int)))) (en := (eP2 D.int D.int)) rfl rfl)))))) (xj_nil (x_go (go_lst (a := ([((x_48.1 - (1 : Int)), x_48.2), ((x_48.1 + (1 : Int)), x_48.2), (x_48.1, (x_48.2 - (1 : Int))), (x_48.1, (x_48.2 + (1 : Int)))] : (List (Int × Int)))) (en := (eL (eP2 D.int D.int))) rfl rfl)))))))
        · exact fun _ => rfl
      · exact fle_c .r (fle_c .r (fle_c .r (fle_c .r (fle_c .r (fle_c .r (fle_c .r fle_nil))))))
      · exact fun x_69 s_70 => tg_n rfl
      · exact fun x_69 s_70 => rl__law_round_1 sea_here_1 cells_2 x_48 x_69 s_70
    · intro j_90
      apply xs_nx (s := j_90)
      · exact fle_c .r (fle_c .r (fle_c .r (fle_c .r (fle_c .sa (fle_c .sa (fle_c .r fle_nil))))))
def y__law_round (sea_here_1 : (List (List Int))) (cells_2 : (List (Int × Int))) : O (List (Int × Int)) := finR (σ := Unit) (κ := Unit)
    (bnd (bnd (lenO cells_2 (List.map (fun x_4 => (x_4, true)) cells_2)) fun a_5 =>
      (dictO a_5)) fun found_6 =>
    (seqF (σ1 := ((List ((Int × Int) × Bool)))) (forF (yl__law_round_2 sea_here_1) cells_2 found_6) fun j_91 =>
    (.ok (.rt ((j_91.map fun p => p.1).mergeSort leII)))))
theorem r__law_round (sea_here_1 : (List (List Int))) (cells_2 : (List (Int × Int))) : RFk rs__law_round (m__law_round [(eT (eT D.int)) sea_here_1, (eL (eP2 D.int D.int)) cells_2]) (y__law_round sea_here_1 cells_2) := by
  unfold m__law_round y__law_round b__law_round
  refine x_def (fr := [.s ((eT (eT D.int)) sea_here_1), .s ((eL (eP2 D.int D.int)) cells_2), .any, .any, .any, .any, .any]) (F := (fun _ => [.any, .any, .any, .any, .any, .any, .any])) (G := fun _ => []) (show Fits _ [some (.sh ((eT (eT D.int)) sea_here_1)), some (.sh ((eL (eP2 D.int D.int)) cells_2)), none, none, none, none, none] from (.cons rfl (.cons rfl (.cons trivial (.cons trivial (.cons trivial (.cons trivial (.cons trivial .nil)))))))) ?_ rfl (.inl rfl)
  apply xs_asg
  · apply xe_n
    · apply xj_e
      · apply xe_compM (t1 := .ok cells_2) (xs := fun (a_3 : (List (Int × Int))) => a_3) (f := (fun _ (x_4 : (Int × Int)) => (x_4, true))) (enα := (eP2 D.int D.int)) (enβ := (eP2 (eP2 D.int D.int) D.bl)) (fc := [.s ((eT (eT D.int)) sea_here_1), .s ((eL (eP2 D.int D.int)) cells_2), .any, .any, .any, .any, .any]) (Fb := (fun (x_4 : (Int × Int)) => [.s ((eT (eT D.int)) sea_here_1), .s ((eL (eP2 D.int D.int)) cells_2), .any, .s ((eP2 D.int D.int) x_4), .any, .any, .any])) (fr' := [.s ((eT (eT D.int)) sea_here_1), .s ((eL (eP2 D.int D.int)) cells_2), .any, .any, .any, .any, .any])
        · apply xi_v
          · exact xe_s (a := cells_2) (en := (eL (eP2 D.int D.int))) rfl
          · exact fun _ => rfl
        · exact fun _ => rfl
        · exact fun a_3 => (fle_c .r (fle_c .r (fle_c .r (fle_c .r (fle_c .r (fle_c .r (fle_c .r fle_nil)))))))
        · exact fun x_4 => tg_n rfl
        · intro _ x_4
          exact xe_n (xj_p (xe_s (a := x_4) (en := (eP2 D.int D.int)) rfl) (xj_p (xe_c (a := true) (en := D.bl) rfl) (xj_nil (x_go (go_tup (a := (x_4, true)) (en := (eP2 (eP2 D.int D.int) D.bl)) rfl rfl)))))
        · exact fun _ => rfl
        · exact fun _ => (fle_c .r (fle_c .r (fle_c .r (fle_c .r (fle_c .r (fle_c .r (fle_c .r fle_nil)))))))
        · exact rfl
        · exact fun _ => fle_r
      · intro a_5
        exact xj_nil (x_go (go_dictM kt_II))
  · exact fun _ => rfl
  · intro found_6
    apply xs_seq
    · apply xs_forP (xs := cells_2) (s0 := found_6) (body := yl__law_round_2 sea_here_1) (enα := (eP2 D.int D.int)) (Fl := fun (s_49 : ((List ((Int × Int) × Bool)))) => [.s ((eT (eT D.int)) sea_here_1), .s ((eL (eP2 D.int D.int)) cells_2), .o ((eM kII D.bl) s_49), .any, .any, .any, .any]) (Fb := fun (x_48 : (Int × Int)) (s_49 : ((List ((Int × Int) × Bool)))) => [.s ((eT (eT D.int)) sea_here_1), .s ((eL (eP2 D.int D.int)) cells_2), .o ((eM kII D.bl) s_49), .any, .s (D.int x_48.1), .s (D.int x_48.2), .any])
      · apply xi_v
        · exact xe_s (a := cells_2) (en := (eL (eP2 D.int D.int))) rfl
        · exact fun _ => rfl
      · exact fle_c .r (fle_c .r (fle_c .r (fle_c .r (fle_c .r (fle_c .r (fle_c .r fle_nil))))))
      · exact fun x_48 s_49 => (tg_t (tg_c (tg_n rfl) (tg_c (tg_n rfl) tg_0)))
      · exact fun x_48 s_49 => rl__law_round_2 sea_here_1 cells_2 x_48 s_49
    · intro j_91
      apply xs_last
      · apply xs_retP (r := ((j_91.map fun p => p.1).mergeSort leII))
        · exact xe_n (xj_b rfl (xj_nil (x_get rfl (x_go (go_srtM (m := j_91) (ev := D.bl) kt_II sortC_II le_II)))))
        · exact rfl
        · exact .inl rfl
        · exact rfl
abbrev rs__law_drift : RS (List (Int × Int)) := ⟨.s, (eT (eP2 D.int D.int)), none, (fun _ => .non)⟩
def yl__law_drift_1 (sea_here_1 : (List (List Int))) (x_14 : Int) (s_15 : ((List (Int × Int)) × (Option (List (Int × Int))))) : O (Fw ((List (Int × Int)) × (Option (List (Int × Int)))) ((List (Int × Int)) × (Option (List (Int × Int)))) (List (Int × Int))) :=
    (seqF (σ1 := ((List (Int × Int)) × (Option (List (Int × Int))))) (bnd (neO ((eL (eP2 D.int D.int)) s_15.1) ((eO (eL (eP2 D.int D.int))) s_15.2)) fun a_16 =>
    if a_16 then (lt (some s_15.1) fun ahead_19 =>
    (bnd (y__law_round sea_here_1 s_15.1) fun found_20 =>
    (.ok (.nx (found_20, ahead_19)))))
    else (.ok (.nx (s_15.1, s_15.2)))) fun j_21 =>
    (.ok (.nx (j_21.1, j_21.2))))
theorem rl__law_drift_1 (sea_here_1 : (List (List Int))) (cell_2 : (Int × Int)) (days_3 : Int) (x_14 : Int) (s_15 : ((List (Int × Int)) × (Option (List (Int × Int))))) : XS [.s ((eT (eT D.int)) sea_here_1), .s ((eP2 D.int D.int) cell_2), .s (D.int days_3), .o ((eL (eP2 D.int D.int)) s_15.1), .s ((eO (eL (eP2 D.int D.int))) s_15.2), .s (D.int x_14)] l__law_drift_1 (yl__law_drift_1 sea_here_1 x_14 s_15) (fun s_15 => [.s ((eT (eT D.int)) sea_here_1), .s ((eP2 D.int D.int) cell_2), .s (D.int days_3), .o ((eL (eP2 D.int D.int)) s_15.1), .s ((eO (eL (eP2 D.int D.int))) s_15.2), .any]) (fun s_15 => [.s ((eT (eT D.int)) sea_here_1), .s ((eP2 D.int D.int) cell_2), .s (D.int days_3), .o ((eL (eP2 D.int D.int)) s_15.1), .s ((eO (eL (eP2 D.int D.int))) s_15.2), .any]) rs__law_drift := by
  unfold l__law_drift_1 yl__law_drift_1
  apply xs_last
  · apply xs_seq (F1 := fun (j_21 : ((List (Int × Int)) × (Option (List (Int × Int))))) => [.s ((eT (eT D.int)) sea_here_1), .s ((eP2 D.int D.int) cell_2), .s (D.int days_3), .o ((eL (eP2 D.int D.int)) j_21.1), .s ((eO (eL (eP2 D.int D.int))) j_21.2), .s (D.int x_14)])
    · apply xs_ifE
      · apply xt_b1
        · exact xe_n (xj_b rfl (xj_b rfl (xj_nil (x_get rfl (x_get rfl (x_go go_ne))))))
        · exact fun _ => rfl
      · intro a_16
        apply xs_let
        · exact xe_cast (a := (some s_15.1)) (en := (eO (eL (eP2 D.int D.int)))) (xe_o (a := s_15.1) (en := (eL (eP2 D.int D.int))) rfl) rfl
        · exact fun _ => rfl
        · intro ahead_19
          apply xs_last
          · apply xs_asg
            · exact xe_ca (xj_p (xe_s (a := sea_here_1) (en := (eT (eT D.int))) rfl) (xj_p (xe_s (a := s_15.1) (en := (eL (eP2 D.int D.int))) rfl) (xj_nil (x_ca (rs := rs__law_round) (r__law_round sea_here_1 s_15.1) rfl))))
            · exact fun _ => rfl
            · intro found_20
              apply xs_nx (s := (found_20, ahead_19))
              · exact fle_c .r (fle_c .r (fle_c .r (fle_c .r (fle_c .r (fle_c .r fle_nil)))))
      · intro a_16
        apply xs_nx (s := (s_15.1, s_15.2))
        · exact fle_c .r (fle_c .r (fle_c .r (fle_c .r (fle_c .r (fle_c .r fle_nil)))))
    · intro j_21
      apply xs_nx (s := (j_21.1, j_21.2))
      · exact fle_c .r (fle_c .r (fle_c .r (fle_c .r (fle_c .r (fle_c .sa fle_nil)))))
def y__law_drift (sea_here_1 : (List (List Int))) (cell_2 : (Int × Int)) (days_3 : Int) : O (List (Int × Int)) := finR (σ := Unit) (κ := Unit)
    (bnd (bnd (bnd (ixO sea_here_1 cell_2.1) fun a_4 =>
      (ixO a_4 cell_2.2)) fun a_5 =>
      (.ok (a_5 == (0 : Int)))) fun a_6 =>
    if a_6 then (.ok (.rt ([cell_2] : (List (Int × Int)))))
    else (seqF (σ1 := ((List (Int × Int)) × (Option (List (Int × Int))))) (bnd (rng1 days_3) fun a_7 => forF (yl__law_drift_1 sea_here_1) a_7 (([cell_2] : (List (Int × Int))), (none : (Option (List (Int × Int)))))) fun j_22 =>
    (.ok (.rt j_22.1))))
theorem r__law_drift (sea_here_1 : (List (List Int))) (cell_2 : (Int × Int)) (days_3 : Int) : RFk rs__law_drift (m__law_drift [(eT (eT D.int)) sea_here_1, (eP2 D.int D.int) cell_2, D.int days_3]) (y__law_drift sea_here_1 cell_2 days_3) := by
  unfold m__law_drift y__law_drift b__law_drift
  refine x_def (fr := [.s ((eT (eT D.int)) sea_here_1), .s ((eP2 D.int D.int) cell_2), .s (D.int days_3), .any, .any, .any]) (F := (fun _ => [.any, .any, .any, .any, .any, .any])) (G := fun _ => []) (show Fits _ [some (.sh ((eT (eT D.int)) sea_here_1)), some (.sh ((eP2 D.int D.int) cell_2)), some (.sh (D.int days_3)), none, none, none] from (.cons rfl (.cons rfl (.cons rfl (.cons trivial (.cons trivial (.cons trivial .nil))))))) ?_ rfl (.inl rfl)
  apply xs_par
  · apply xp_p
    · exact xe_n (xj_p (xe_s (a := cell_2) (en := (eP2 D.int D.int)) rfl) (xj_nil (x_go (go_lst (a := ([cell_2] : (List (Int × Int)))) (en := (eL (eP2 D.int D.int))) rfl rfl))))
    · apply xp_p
      · exact xe_cast (a := (none : (Option (List (Int × Int))))) (en := (eO (eL (eP2 D.int D.int)))) (xe_c (a := ()) (en := eU) rfl) rfl
      · apply xp_nil
        · exact rfl
        · exact rfl
        · apply xs_ifd
          · apply xs_ifE
            · apply xt_b1
              · apply xe_n
                · apply xj_e
                  · apply xe_n
                    · apply xj_e
                      · exact xe_n (xj_b rfl (xj_p (xe_n (xj_b rfl (xj_p (xe_c (a := (0 : Int)) (en := D.int) rfl) (xj_nil (x_get rfl (x_go (go_ixP (a := cell_2.1) (en := D.int) rfl))))))) (xj_nil (x_get rfl (x_go go_ixT)))))
                      · intro a_4
                        exact xj_p (xe_n (xj_b rfl (xj_p (xe_c (a := (1 : Int)) (en := D.int) rfl) (xj_nil (x_get rfl (x_go (go_ixP (a := cell_2.2) (en := D.int) rfl))))))) (xj_nil (x_go go_ixT))
                  · intro a_5
                    exact xj_p (xe_c (a := (0 : Int)) (en := D.int) rfl) (xj_nil (x_go go_eqi))
              · exact fun _ => rfl
            · intro a_6
              exact xs_retP (r := ([cell_2] : (List (Int × Int)))) (xe_n (xj_b rfl (xj_nil (x_get rfl (x_go go_tupL))))) rfl (.inl rfl) rfl
            · intro a_6
              apply xs_pass
              · apply xs_seq
                · apply xs_for (xs := fun (a_7 : ((List Int))) => a_7) (s0 := fun (a_7 : ((List Int))) => (([cell_2] : (List (Int × Int))), (none : (Option (List (Int × Int)))))) (body := yl__law_drift_1 sea_here_1) (enα := D.int) (Fl := fun (s_15 : ((List (Int × Int)) × (Option (List (Int × Int))))) => [.s ((eT (eT D.int)) sea_here_1), .s ((eP2 D.int D.int) cell_2), .s (D.int days_3), .o ((eL (eP2 D.int D.int)) s_15.1), .s ((eO (eL (eP2 D.int D.int))) s_15.2), .any]) (Fb := fun (x_14 : Int) (s_15 : ((List (Int × Int)) × (Option (List (Int × Int))))) => [.s ((eT (eT D.int)) sea_here_1), .s ((eP2 D.int D.int) cell_2), .s (D.int days_3), .o ((eL (eP2 D.int D.int)) s_15.1), .s ((eO (eL (eP2 D.int D.int))) s_15.2), .s (D.int x_14)])
                  · exact xi_g (xj_p (xe_s (a := days_3) (en := D.int) rfl) (xj_nil (x_gl gl_r1)))
                  · exact fun a_7 => (fle_c .r (fle_c .r (fle_c .r (fle_c .r (fle_c .r (fle_c .r fle_nil))))))
                  · exact fun x_14 s_15 => tg_n rfl
                  · exact fun x_14 s_15 => rl__law_drift_1 sea_here_1 cell_2 days_3 x_14 s_15
                · intro j_22
                  exact xs_last (xs_retP (r := j_22.1) (xe_n (xj_b rfl (xj_nil (x_get rfl (x_go go_tupL))))) rfl (.inl rfl) rfl)
abbrev rs_law : RS Bool := ⟨.s, D.bl, none, (fun _ => .non)⟩
def yl_law_1 (sea_here_104 : ((List (List Int)) × (List Int))) (cell_144 : ((Int × Int) × (List Int))) (x_165 : Int) (s_166 : ((List Int))) : O (Fw ((List Int)) ((List Int)) Bool) :=
    (bnd (y__law_drift sea_here_104.1 cell_144.1 x_165) fun due_167 =>
    (bnd (bnd (bnd (bnd (y_drift sea_here_104.1 cell_144.1 x_165) fun a_168 =>
      (reprO ((eT (eP2 D.int D.int)) a_168))) fun a_169 =>
      (bnd (reprO ((eT (eP2 D.int D.int)) due_167)) fun a_170 =>
      (nesO a_169 a_170))) fun a_171 => if a_171 then .ok true else (bnd (bnd (bnd (y_drift sea_here_104.1 cell_144.1 x_165) fun a_172 =>
      (reprO ((eT (eP2 D.int D.int)) a_172))) fun a_173 =>
      (bnd (reprO ((eT (eP2 D.int D.int)) due_167)) fun a_174 =>
      (nesO a_173 a_174))) fun a_176 => .ok a_176)) fun a_178 =>
    if a_178 then (.ok (.rt false))
    else (.ok (.nx s_166))))
theorem rl_law_1 (script_1 : (List Int)) (x_91 : Int) (sea_here_104 : ((List (List Int)) × (List Int))) (x_142 : Int) (cell_144 : ((Int × Int) × (List Int))) (x_165 : Int) (s_166 : ((List Int))) : XS [.s ((eR D.int) script_1), .s (D.int x_91), .o ((eL D.int) s_166), .s ((eT (eT D.int)) sea_here_104.1), .s (D.int x_142), .s ((eP2 D.int D.int) cell_144.1), .s (D.int x_165), .any] l_law_1 (yl_law_1 sea_here_104 cell_144 x_165 s_166) (fun s_166 => [.s ((eR D.int) script_1), .s (D.int x_91), .o ((eL D.int) s_166), .s ((eT (eT D.int)) sea_here_104.1), .s (D.int x_142), .s ((eP2 D.int D.int) cell_144.1), .any, .any]) (fun s_166 => [.s ((eR D.int) script_1), .s (D.int x_91), .o ((eL D.int) s_166), .s ((eT (eT D.int)) sea_here_104.1), .s (D.int x_142), .s ((eP2 D.int D.int) cell_144.1), .any, .any]) rs_law := by
  unfold l_law_1 yl_law_1
  apply xs_asg
  · exact xe_ca (xj_p (xe_s (a := sea_here_104.1) (en := (eT (eT D.int))) rfl) (xj_p (xe_s (a := cell_144.1) (en := (eP2 D.int D.int)) rfl) (xj_p (xe_s (a := x_165) (en := D.int) rfl) (xj_nil (x_ca (rs := rs__law_drift) (r__law_drift sea_here_104.1 cell_144.1 x_165) rfl)))))
  · exact fun _ => rfl
  · intro due_167
    apply xs_last
    · apply xs_ifd
      · apply xs_ifE
        · apply xt_orG (r := fun (a_171 : Bool) => true)
          · apply xt_b1
            · apply xe_n
              · apply xj_e
                · apply xe_n
                  · apply xj_e
                    · exact xe_ca (xj_p (xe_s (a := sea_here_104.1) (en := (eT (eT D.int))) rfl) (xj_p (xe_s (a := cell_144.1) (en := (eP2 D.int D.int)) rfl) (xj_p (xe_s (a := x_165) (en := D.int) rfl) (xj_nil (x_ca (rs := rs_drift) (r_drift sea_here_104.1 cell_144.1 x_165) rfl)))))
                    · intro a_168
                      exact xj_nil (x_go go_repr)
                · intro a_169
                  apply xj_e
                  · exact xe_n (xj_b rfl (xj_nil (x_get rfl (x_go go_repr))))
                  · intro a_170
                    exact xj_nil (x_go go_nes)
            · exact fun _ => rfl
          · intro a_171
            apply xt_map (k := fun (a_176 : Bool) => a_176) (b' := id) (F := (fun (a_177 : Bool) => [.s ((eR D.int) script_1), .s (D.int x_91), .o ((eL D.int) s_166), .s ((eT (eT D.int)) sea_here_104.1), .s (D.int x_142), .s ((eP2 D.int D.int) cell_144.1), .s (D.int x_165), .s ((eT (eP2 D.int D.int)) due_167)]))
            · apply xt_b1
              · apply xe_n
                · apply xj_e
                  · apply xe_n
                    · apply xj_e
                      · exact xe_ca (xj_p (xe_s (a := sea_here_104.1) (en := (eT (eT D.int))) rfl) (xj_p (xe_s (a := cell_144.1) (en := (eP2 D.int D.int)) rfl) (xj_p (xe_s (a := x_165) (en := D.int) rfl) (xj_nil (x_ca (rs := rs_drift) (r_drift sea_here_104.1 cell_144.1 x_165) rfl)))))
                      · intro a_172
                        exact xj_nil (x_go go_repr)
                  · intro a_173
                    apply xj_e
                    · exact xe_n (xj_b rfl (xj_nil (x_get rfl (x_go go_repr))))
                    · intro a_174
                      exact xj_nil (x_go go_nes)
              · exact fun _ => rfl
            · exact fun _ => rfl
            · exact fun a_176 => (fle_c .r (fle_c .r (fle_c .r (fle_c .r (fle_c .r (fle_c .r (fle_c .r (fle_c .r fle_nil))))))))
          · exact fun _ => rfl
          · exact fun a_171 => (fle_c .r (fle_c .r (fle_c .r (fle_c .r (fle_c .r (fle_c .r (fle_c .r (fle_c .r fle_nil))))))))
        · intro a_178
          exact xs_retP (r := false) (xe_c (a := false) (en := D.bl) rfl) rfl (.inl rfl) rfl
        · intro a_178
          apply xs_pass
          · apply xs_nx (s := s_166)
            · exact fle_c .r (fle_c .r (fle_c .r (fle_c .r (fle_c .r (fle_c .r (fle_c .sa (fle_c .sa fle_nil)))))))
def yl_law_2 (sea_here_104 : ((List (List Int)) × (List Int))) (x_142 : Int) (s_143 : ((List Int))) : O (Fw ((List Int)) ((List Int)) Bool) :=
    (bnd (y__law_cell_of s_143 sea_here_104.1) fun cell_144 =>
    (seqF (σ1 := ((List Int))) (bnd (bnd (bnd (y__law_take cell_144.2 (6 : Int)) fun a_145 =>
      (.ok (((2 : Int) + a_145.1), a_145.2))) fun a_148 =>
      (bnd (ixO ([(400 : Int), (24 : Int)] : (List Int)) (x_142 % (2 : Int))) fun a_149 =>
      (.ok (([(0 : Int), (1 : Int), a_148.1, a_149] : (List Int)), a_148.2)))) fun a_152 => forF (yl_law_1 sea_here_104 cell_144) a_152.1 a_152.2) fun j_179 =>
    (.ok (.nx j_179))))
theorem rl_law_2 (script_1 : (List Int)) (x_91 : Int) (sea_here_104 : ((List (List Int)) × (List Int))) (x_142 : Int) (s_143 : ((List Int))) : XS [.s ((eR D.int) script_1), .s (D.int x_91), .o ((eL D.int) s_143), .s ((eT (eT D.int)) sea_here_104.1), .s (D.int x_142), .any, .any, .any] l_law_2 (yl_law_2 sea_here_104 x_142 s_143) (fun s_143 => [.s ((eR D.int) script_1), .s (D.int x_91), .o ((eL D.int) s_143), .s ((eT (eT D.int)) sea_here_104.1), .any, .any, .any, .any]) (fun s_143 => [.s ((eR D.int) script_1), .s (D.int x_91), .o ((eL D.int) s_143), .s ((eT (eT D.int)) sea_here_104.1), .any, .any, .any, .any]) rs_law := by
  unfold l_law_2 yl_law_2
  apply xs_asg
  · exact xe_ca (xj_b rfl (xj_p (xe_s (a := sea_here_104.1) (en := (eT (eT D.int))) rfl) (xj_nil (x_get rfl (x_caM (rs := rs__law_cell_of) (i := 2) (r__law_cell_of s_143 sea_here_104.1) rfl rfl rfl rfl)))))
  · exact fun _ => rfl
  · intro cell_144
    apply xs_last
    · apply xs_seq
      · apply xs_for (xs := fun (a_152 : ((List Int) × (List Int))) => a_152.1) (s0 := fun (a_152 : ((List Int) × (List Int))) => a_152.2) (body := yl_law_1 sea_here_104 cell_144) (enα := D.int) (Fl := fun (s_166 : ((List Int))) => [.s ((eR D.int) script_1), .s (D.int x_91), .o ((eL D.int) s_166), .s ((eT (eT D.int)) sea_here_104.1), .s (D.int x_142), .s ((eP2 D.int D.int) cell_144.1), .any, .any]) (Fb := fun (x_165 : Int) (s_166 : ((List Int))) => [.s ((eR D.int) script_1), .s (D.int x_91), .o ((eL D.int) s_166), .s ((eT (eT D.int)) sea_here_104.1), .s (D.int x_142), .s ((eP2 D.int D.int) cell_144.1), .s (D.int x_165), .any])
        · apply xi_v
          · apply xe_n
            · apply xj_p
              · exact xe_c (a := (0 : Int)) (en := D.int) rfl
              · apply xj_p
                · exact xe_c (a := (1 : Int)) (en := D.int) rfl
                · apply xj_e
                  · apply xe_n
                    · apply xj_p
                      · exact xe_c (a := (2 : Int)) (en := D.int) rfl
                      · apply xj_e
                        · exact xe_ca (xj_b rfl (xj_p (xe_c (a := (6 : Int)) (en := D.int) rfl) (xj_nil (x_get rfl (x_caM (rs := rs__law_take) (i := 2) (r__law_take cell_144.2 (6 : Int)) rfl rfl rfl rfl)))))
                        · intro a_145
                          apply xj_nil
                          · apply xe_mapP (r := (((2 : Int) + a_145.1), a_145.2)) (en' := (fun (a_147 : (Int × (List Int))) => D.int a_147.1)) (F := (fun (a_147 : (Int × (List Int))) => [.s ((eR D.int) script_1), .s (D.int x_91), .o ((eL D.int) a_147.2), .s ((eT (eT D.int)) sea_here_104.1), .s (D.int x_142), .s ((eP2 D.int D.int) cell_144.1), .any, .any]))
                            · exact x_go go_add
                            · exact rfl
                            · exact fle_r
                  · intro a_148
                    apply xj_e
                    · exact xe_n (xj_p (xe_n (xj_p (xe_c (a := (400 : Int)) (en := D.int) rfl) (xj_p (xe_c (a := (24 : Int)) (en := D.int) rfl) (xj_nil (x_go (go_lst (a := ([(400 : Int), (24 : Int)] : (List Int))) (en := (eL D.int)) rfl rfl)))))) (xj_p (xe_n (xj_b rfl (xj_p (xe_c (a := (2 : Int)) (en := D.int) rfl) (xj_nil (x_get rfl (x_go (go_modk rfl))))))) (xj_nil (x_go go_ixL))))
                    · intro a_149
                      apply xj_nil
                      · apply xe_mapP (r := (([(0 : Int), (1 : Int), a_148.1, a_149] : (List Int)), a_148.2)) (en' := (fun (a_151 : ((List Int) × (List Int))) => (eL D.int) a_151.1)) (F := (fun (a_151 : ((List Int) × (List Int))) => [.s ((eR D.int) script_1), .s (D.int x_91), .o ((eL D.int) a_151.2), .s ((eT (eT D.int)) sea_here_104.1), .s (D.int x_142), .s ((eP2 D.int D.int) cell_144.1), .any, .any]))
                        · exact x_go (go_lst (a := ([(0 : Int), (1 : Int), a_148.1, a_149] : (List Int))) (en := (eL D.int)) rfl rfl)
                        · exact rfl
                        · exact fle_r
          · exact fun _ => rfl
        · exact fun a_152 => (fle_c .r (fle_c .r (fle_c .r (fle_c .r (fle_c .r (fle_c .r (fle_c .r (fle_c .r fle_nil))))))))
        · exact fun x_165 s_166 => tg_n rfl
        · exact fun x_165 s_166 => rl_law_1 script_1 x_91 sea_here_104 x_142 cell_144 x_165 s_166
      · intro j_179
        apply xs_nx (s := j_179)
        · exact fle_c .r (fle_c .r (fle_c .r (fle_c .r (fle_c .sa (fle_c .sa (fle_c .r (fle_c .r fle_nil)))))))
def yl_law_3 (script_1 : (List Int)) (x_91 : Int) (s_92 : Unit) : O (Fw Unit Unit Bool) :=
    (bnd (y__law_box script_1 x_91) fun box_here_93 =>
    (bnd (bnd (bnd (y__law_take box_here_93 (2 : Int)) fun a_94 =>
      (bnd (ixO ([(5 : Int), (16 : Int)] : (List Int)) a_94.1) fun r_95 => .ok (r_95, a_94.2))) fun a_97 =>
      (bnd (bnd (y__law_take a_97.2 (2 : Int)) fun a_98 =>
      (bnd (ixO ([(4 : Int), (9 : Int)] : (List Int)) a_98.1) fun r_99 => .ok (r_99, a_98.2))) fun a_101 =>
      (bnd (y__law_sea a_101.2 a_97.1 a_101.1) fun a_102 => .ok (a_102.1, a_102.2)))) fun sea_here_104 =>
    (seqF (σ1 := ((List Int))) (bnd (rng1 (4 : Int)) fun a_105 => forF (yl_law_2 sea_here_104) a_105 sea_here_104.2) fun j_180 =>
    (.ok (.nx ())))))
theorem rl_law_3 (script_1 : (List Int)) (x_91 : Int) (s_92 : Unit) : XS [.s ((eR D.int) script_1), .s (D.int x_91), .any, .any, .any, .any, .any, .any] l_law_3 (yl_law_3 script_1 x_91 s_92) (fun s_92 => [.s ((eR D.int) script_1), .any, .any, .any, .any, .any, .any, .any]) (fun s_92 => [.s ((eR D.int) script_1), .any, .any, .any, .any, .any, .any, .any]) rs_law := by
  unfold l_law_3 yl_law_3
  apply xs_asg
  · exact xe_ca (xj_p (xe_s (a := script_1) (en := (eR D.int)) rfl) (xj_p (xe_s (a := x_91) (en := D.int) rfl) (xj_nil (x_ca (rs := rs__law_box) (r__law_box script_1 x_91) rfl))))
  · exact fun _ => rfl
  · intro box_here_93
    apply xs_asg
    · apply xe_ca
      · apply xj_b
        · exact rfl
        · apply xj_e
          · apply xe_n
            · apply xj_p
              · exact xe_n (xj_p (xe_c (a := (5 : Int)) (en := D.int) rfl) (xj_p (xe_c (a := (16 : Int)) (en := D.int) rfl) (xj_nil (x_go (go_lst (a := ([(5 : Int), (16 : Int)] : (List Int))) (en := (eL D.int)) rfl rfl)))))
              · apply xj_e
                · exact xe_ca (xj_b rfl (xj_p (xe_c (a := (2 : Int)) (en := D.int) rfl) (xj_nil (x_get rfl (x_caM (rs := rs__law_take) (i := 2) (r__law_take box_here_93 (2 : Int)) rfl rfl rfl rfl)))))
                · intro a_94
                  apply xj_nil
                  · apply xe_map (k := (fun (r_95 : Int) => (r_95, a_94.2))) (en' := (fun (a_96 : (Int × (List Int))) => D.int a_96.1)) (F := (fun (a_96 : (Int × (List Int))) => [.s ((eR D.int) script_1), .s (D.int x_91), .o ((eL D.int) a_96.2), .any, .any, .any, .any, .any]))
                    · exact x_go go_ixL
                    · exact fun _ => rfl
                    · exact fun _ => fle_r
          · intro a_97
            apply xj_e
            · apply xe_n
              · apply xj_p
                · exact xe_n (xj_p (xe_c (a := (4 : Int)) (en := D.int) rfl) (xj_p (xe_c (a := (9 : Int)) (en := D.int) rfl) (xj_nil (x_go (go_lst (a := ([(4 : Int), (9 : Int)] : (List Int))) (en := (eL D.int)) rfl rfl)))))
                · apply xj_e
                  · exact xe_ca (xj_b rfl (xj_p (xe_c (a := (2 : Int)) (en := D.int) rfl) (xj_nil (x_get rfl (x_caM (rs := rs__law_take) (i := 2) (r__law_take a_97.2 (2 : Int)) rfl rfl rfl rfl)))))
                  · intro a_98
                    apply xj_nil
                    · apply xe_map (k := (fun (r_99 : Int) => (r_99, a_98.2))) (en' := (fun (a_100 : (Int × (List Int))) => D.int a_100.1)) (F := (fun (a_100 : (Int × (List Int))) => [.s ((eR D.int) script_1), .s (D.int x_91), .o ((eL D.int) a_100.2), .any, .any, .any, .any, .any]))
                      · exact x_go go_ixL
                      · exact fun _ => rfl
                      · exact fun _ => fle_r
            · intro a_101
              apply xj_nil
              · apply xe_map (k := (fun (a_102 : ((List (List Int)) × (List Int))) => (a_102.1, a_102.2))) (en' := (fun (a_103 : ((List (List Int)) × (List Int))) => (eT (eT D.int)) a_103.1)) (F := (fun (a_103 : ((List (List Int)) × (List Int))) => [.s ((eR D.int) script_1), .s (D.int x_91), .o ((eL D.int) a_103.2), .any, .any, .any, .any, .any]))
                · exact x_get rfl (x_caM (rs := rs__law_sea) (i := 2) (r__law_sea a_101.2 a_97.1 a_101.1) rfl rfl rfl rfl)
                · exact fun _ => rfl
                · exact fun _ => fle_r
    · exact fun _ => rfl
    · intro sea_here_104
      apply xs_last
      · apply xs_seq
        · apply xs_for (xs := fun (a_105 : ((List Int))) => a_105) (s0 := fun (a_105 : ((List Int))) => sea_here_104.2) (body := yl_law_2 sea_here_104) (enα := D.int) (Fl := fun (s_143 : ((List Int))) => [.s ((eR D.int) script_1), .s (D.int x_91), .o ((eL D.int) s_143), .s ((eT (eT D.int)) sea_here_104.1), .any, .any, .any, .any]) (Fb := fun (x_142 : Int) (s_143 : ((List Int))) => [.s ((eR D.int) script_1), .s (D.int x_91), .o ((eL D.int) s_143), .s ((eT (eT D.int)) sea_here_104.1), .s (D.int x_142), .any, .any, .any])
          · exact xi_g (xj_p (xe_c (a := (4 : Int)) (en := D.int) rfl) (xj_nil (x_gl gl_r1)))
          · exact fun a_105 => (fle_c .r (fle_c .r (fle_c .r (fle_c .r (fle_c .r (fle_c .r (fle_c .r (fle_c .r fle_nil))))))))
          · exact fun x_142 s_143 => tg_n rfl
          · exact fun x_142 s_143 => rl_law_2 script_1 x_91 sea_here_104 x_142 s_143
        · intro j_180
          apply xs_nx (s := ())
          · exact fle_c .r (fle_c .sa (fle_c .oa (fle_c .sa (fle_c .r (fle_c .r (fle_c .r (fle_c .r fle_nil)))))))
def y_law (script_1 : (List Int)) : O Bool := finR (σ := Unit) (κ := Unit)
    (seqF (σ1 := Unit) (bnd (rng1 (max (1 : Int) (min (script_1.length : Int) (4 : Int)))) fun a_2 => forF (yl_law_3 script_1) a_2 ()) fun j_181 =>
    (.ok (.rt true)))
theorem r_law (script_1 : (List Int)) : RFk rs_law (m_law [(eR D.int) script_1]) (y_law script_1) := by
  unfold m_law y_law b_law
  refine x_def (fr := [.s ((eR D.int) script_1), .any, .any, .any, .any, .any, .any, .any]) (F := (fun _ => [.any, .any, .any, .any, .any, .any, .any, .any])) (G := fun _ => []) (show Fits _ [some (.sh ((eR D.int) script_1)), none, none, none, none, none, none, none] from (.cons rfl (.cons trivial (.cons trivial (.cons trivial (.cons trivial (.cons trivial (.cons trivial (.cons trivial .nil))))))))) ?_ rfl (.inl rfl)
  apply xs_seq
  · apply xs_for (xs := fun (a_2 : ((List Int))) => a_2) (s0 := fun (a_2 : ((List Int))) => ()) (body := yl_law_3 script_1) (enα := D.int) (Fl := fun (s_92 : Unit) => [.s ((eR D.int) script_1), .any, .any, .any, .any, .any, .any, .any]) (Fb := fun (x_91 : Int) (s_92 : Unit) => [.s ((eR D.int) script_1), .s (D.int x_91), .any, .any, .any, .any, .any, .any])
    · exact xi_g (xj_p (xe_n (xj_p (xe_c (a := (1 : Int)) (en := D.int) rfl) (xj_p (xe_n (xj_p (xe_n (xj_b rfl (xj_nil (x_get rfl (x_go go_lenR))))) (xj_p (xe_c (a := (4 : Int)) (en := D.int) rfl) (xj_nil (x_go go_min))))) (xj_nil (x_go go_max))))) (xj_nil (x_gl gl_r1)))
    · exact fun a_2 => (fle_c .r (fle_c .r (fle_c .r (fle_c .r (fle_c .r (fle_c .r (fle_c .r (fle_c .r fle_nil))))))))
    · exact fun x_91 s_92 => tg_n rfl
    · exact fun x_91 s_92 => rl_law_3 script_1 x_91 s_92
  · intro j_181
    exact xs_last (xs_retP (r := true) (xe_c (a := true) (en := D.bl) rfl) rfl (.inl rfl) rfl)
end LW

end
section
set_option maxRecDepth 100000
set_option maxHeartbeats 2000000
namespace LW
open PySem PySem.Spec PyProof.Rows L2 DL
theorem more_ok (n m : Int) : ∃ v m', y__law_more [n, m] = .ok (v, [n, m']) := by
  have rg := rng1_ok (j := 12) (by decide) (by decide)
  obtain ⟨st, h1, m', v, h2⟩ := forF_inv (κ := Unit) (body := yl__law_more_1) (fun xs (st : List Int × Int) => ∃ m v, st = ([n, m], v)) (fun y ys st hst => by
    obtain ⟨m, v, rfl⟩ := hst
    have g1 : ixO [n, m] 1 = .ok m := ixO_nat (n := 1) rfl
    have g2 : ∀ q : Int, setO [n, m] 1 q = .ok [n, q] := fun q => setO_nat (n := 1) (by simp)
    have g3 : ∀ q : Int, ixO [n, q] 1 = .ok q := fun q => ixO_nat (n := 1) rfl
    exact ⟨([n, (m * 48271 + 30269) % 2147483647], v * 65521 + (m * 48271 + 30269) % 2147483647 / 7 % 65521), by unfold yl__law_more_1; simp -implicitDefEqProofs only [DL.bnd_ok, DL.bnd_eta, DL.bnd_bad, DL.bnd_ex, DL.bnd_ite, DL.seqF_nx, DL.seqF_rt, DL.seqF_ite, DL.loopF_nx, DL.loopF_rt, DL.loopF_ite, DL.finR_rt, DL.finRM_rt, DL.finN_rt, DL.finN_nx, DL.finNM_rt, DL.finNM_nx, DL.finR_ite, DL.lt_eq, ite_true, ite_false, Bool.not_true, Bool.not_false, Bool.true_and, Bool.and_true, Bool.false_and, Bool.and_false, Bool.true_or, Bool.or_true, Bool.false_or, Bool.or_false, Bool.false_eq_true, decide_true, decide_false, beq_self_eq_true, beq_iff_eq, decide_eq_true_eq, reduceIte, if_true, if_false, g1, g2, g3], _, _, rfl⟩) (irng 0 12) ([n, m], 0) ⟨m, 0, rfl⟩
  subst h2
  refine ⟨v, m', ?_⟩
  unfold y__law_more
  simp -implicitDefEqProofs only [DL.bnd_ok, DL.bnd_eta, DL.bnd_bad, DL.bnd_ex, DL.bnd_ite, DL.seqF_nx, DL.seqF_rt, DL.seqF_ite, DL.loopF_nx, DL.loopF_rt, DL.loopF_ite, DL.finR_rt, DL.finRM_rt, DL.finN_rt, DL.finN_nx, DL.finNM_rt, DL.finNM_nx, DL.finR_ite, DL.lt_eq, ite_true, ite_false, Bool.not_true, Bool.not_false, Bool.true_and, Bool.and_true, Bool.false_and, Bool.and_false, Bool.true_or, Bool.or_true, Bool.false_or, Bool.or_false, Bool.false_eq_true, decide_true, decide_false, beq_self_eq_true, beq_iff_eq, decide_eq_true_eq, reduceIte, if_true, if_false, rg, h1]
theorem take_ok (n m c : Int) (h0 : 0 < c) (h1 : c < 1000) : ∃ d n' m', y__law_take [n, m] c = .ok (d, [n', m']) ∧ 0 ≤ d ∧ d < c := by
  have g0 : ∀ n m : Int, ixO [n, m] 0 = .ok n := fun n m => ixO_0
  have st : ∀ n m q : Int, setO [n, m] 0 q = .ok [q, m] := fun n m q => setO_nat (n := 0) (by simp)
  have dm : ∀ n : Int, divmodO n c = .ok (n / c, n % c) := fun n => divmodO_ok h0 (by omega)
  by_cases k : 0 ≤ n ∧ n < c
  · obtain ⟨v, m', hm⟩ := more_ok n m
    have ml : mulO c v = .ok (c * v) := mulO_l (by omega) (by omega)
    refine ⟨(n + c * v) % c, (n + c * v) / c, m', ?_, Int.emod_nonneg _ (by omega), Int.emod_lt_of_pos _ h0⟩
    unfold y__law_take
    simp -implicitDefEqProofs only [DL.bnd_ok, DL.bnd_eta, DL.bnd_bad, DL.bnd_ex, DL.bnd_ite, DL.seqF_nx, DL.seqF_rt, DL.seqF_ite, DL.loopF_nx, DL.loopF_rt, DL.loopF_ite, DL.finR_rt, DL.finRM_rt, DL.finN_rt, DL.finN_nx, DL.finNM_rt, DL.finNM_nx, DL.finR_ite, DL.lt_eq, ite_true, ite_false, Bool.not_true, Bool.not_false, Bool.true_and, Bool.and_true, Bool.false_and, Bool.and_false, Bool.true_or, Bool.or_true, Bool.false_or, Bool.or_false, Bool.false_eq_true, decide_true, decide_false, beq_self_eq_true, beq_iff_eq, decide_eq_true_eq, reduceIte, if_true, if_false, g0, k.1, k.2, hm, ml, st, dm]
  · refine ⟨n % c, n / c, m, ?_, Int.emod_nonneg _ (by omega), Int.emod_lt_of_pos _ h0⟩
    have e : (decide (0 ≤ n) && decide (n < c)) = false := by
      cases e : (decide (0 ≤ n) && decide (n < c)) with
      | false => rfl
      | true => exact absurd (by simpa using e) k
    unfold y__law_take
    simp -implicitDefEqProofs only [DL.bnd_ok, DL.bnd_eta, DL.bnd_bad, DL.bnd_ex, DL.bnd_ite, DL.seqF_nx, DL.seqF_rt, DL.seqF_ite, DL.loopF_nx, DL.loopF_rt, DL.loopF_ite, DL.finR_rt, DL.finRM_rt, DL.finN_rt, DL.finN_nx, DL.finNM_rt, DL.finNM_nx, DL.finR_ite, DL.lt_eq, ite_true, ite_false, Bool.not_true, Bool.not_false, Bool.true_and, Bool.and_true, Bool.false_and, Bool.and_false, Bool.true_or, Bool.or_true, Bool.false_or, Bool.or_false, Bool.false_eq_true, decide_true, decide_false, beq_self_eq_true, beq_iff_eq, decide_eq_true_eq, reduceIte, if_true, if_false, g0, e, dm, st]
theorem box_ok (ns : List Int) (k : Int) (hk : 0 ≤ k) : ∃ n m, y__law_box ns k = .ok [n, m] := by
  have rg := rng1_ok (j := 16) (by decide) (by decide)
  have key : ∀ h : Int, ∃ n m, finR (σ := Unit) (κ := Unit) (if ((h % (2 : Int)) == (0 : Int)) then (.ok (.rt ([(h / (2 : Int)), ((iabs h) % (2147483647 : Int))] : (List Int))))
    else (seqF (σ1 := (Int)) (bnd (rng1 (16 : Int)) fun a_7 => forF (yl__law_box_1 h) a_7 (0 : Int)) fun j_22 =>
    (.ok (.rt ([j_22, ((iabs h) % (2147483647 : Int))] : (List Int)))))) = .ok [n, m] := fun h => by
    by_cases c : h % 2 = 0
    · exact ⟨h / 2, iabs h % 2147483647, by simp -implicitDefEqProofs only [DL.bnd_ok, DL.bnd_eta, DL.bnd_bad, DL.bnd_ex, DL.bnd_ite, DL.seqF_nx, DL.seqF_rt, DL.seqF_ite, DL.loopF_nx, DL.loopF_rt, DL.loopF_ite, DL.finR_rt, DL.finRM_rt, DL.finN_rt, DL.finN_nx, DL.finNM_rt, DL.finNM_nx, DL.finR_ite, DL.lt_eq, ite_true, ite_false, Bool.not_true, Bool.not_false, Bool.true_and, Bool.and_true, Bool.false_and, Bool.and_false, Bool.true_or, Bool.or_true, Bool.false_or, Bool.or_false, Bool.false_eq_true, decide_true, decide_false, beq_self_eq_true, beq_iff_eq, decide_eq_true_eq, reduceIte, if_true, if_false, c]⟩
    · obtain ⟨st, h1, _⟩ := forF_inv (κ := Unit) (body := yl__law_box_1 h) (fun xs (st : Int) => True) (fun y ys st _ => by
        have a0 := Int.emod_nonneg (((((h % (2147483647 : Int)) * (48271 : Int)) + ((7919 : Int) * y)) + (1 : Int))) (show (2147483647 : Int) ≠ 0 by decide)
        have a1 := Int.emod_lt_of_pos (((((h % (2147483647 : Int)) * (48271 : Int)) + ((7919 : Int) * y)) + (1 : Int))) (show (0 : Int) < 2147483647 by decide)
        generalize hp : (((((h % (2147483647 : Int)) * (48271 : Int)) + ((7919 : Int) * y)) + (1 : Int)) % 2147483647) = p at a0 a1
        have m1 : mulO p p = .ok (p * p) := mulO_l (by omega) (by omega)
        have b0 := Int.emod_nonneg (p * p) (show (2147483629 : Int) ≠ 0 by decide)
        have b1 := Int.emod_lt_of_pos (p * p) (show (0 : Int) < 2147483629 by decide)
        generalize hq : p * p % 2147483629 = q at b0 b1
        have m2 : mulO q (q + 13) = .ok (q * (q + 13)) := mulO_l (by omega) (by omega)
        exact ⟨st * 2147483647 + q * (q + 13) % 2147483647, by unfold yl__law_box_1; simp -implicitDefEqProofs only [DL.bnd_ok, DL.bnd_eta, DL.bnd_bad, DL.bnd_ex, DL.bnd_ite, DL.seqF_nx, DL.seqF_rt, DL.seqF_ite, DL.loopF_nx, DL.loopF_rt, DL.loopF_ite, DL.finR_rt, DL.finRM_rt, DL.finN_rt, DL.finN_nx, DL.finNM_rt, DL.finNM_nx, DL.finR_ite, DL.lt_eq, ite_true, ite_false, Bool.not_true, Bool.not_false, Bool.true_and, Bool.and_true, Bool.false_and, Bool.and_false, Bool.true_or, Bool.or_true, Bool.false_or, Bool.or_false, Bool.false_eq_true, decide_true, decide_false, beq_self_eq_true, beq_iff_eq, decide_eq_true_eq, reduceIte, if_true, if_false, hp, m1, hq, m2], trivial⟩) (irng 0 16) 0 trivial
      exact ⟨st, iabs h % 2147483647, by simp -implicitDefEqProofs only [DL.bnd_ok, DL.bnd_eta, DL.bnd_bad, DL.bnd_ex, DL.bnd_ite, DL.seqF_nx, DL.seqF_rt, DL.seqF_ite, DL.loopF_nx, DL.loopF_rt, DL.loopF_ite, DL.finR_rt, DL.finRM_rt, DL.finN_rt, DL.finN_nx, DL.finNM_rt, DL.finNM_nx, DL.finR_ite, DL.lt_eq, ite_true, ite_false, Bool.not_true, Bool.not_false, Bool.true_and, Bool.and_true, Bool.false_and, Bool.and_false, Bool.true_or, Bool.or_true, Bool.false_or, Bool.or_false, Bool.false_eq_true, decide_true, decide_false, beq_self_eq_true, beq_iff_eq, decide_eq_true_eq, reduceIte, if_true, if_false, c, rg, h1]⟩
  by_cases c : k < ns.length
  · have g : ixO ns k = .ok (ns.getD k.toNat 0) := by
      have := ixO_nat (xs := ns) (n := k.toNat) (a := ns.getD k.toNat 0) (by rw [List.getD_eq_getElem?_getD, List.getElem?_eq_getElem (by omega)]; rfl)
      rwa [Int.toNat_of_nonneg hk] at this
    obtain ⟨n, m, h⟩ := key (ns.getD k.toNat 0)
    refine ⟨n, m, ?_⟩
    unfold y__law_box
    simp -implicitDefEqProofs only [DL.bnd_ok, DL.bnd_eta, DL.bnd_bad, DL.bnd_ex, DL.bnd_ite, DL.seqF_nx, DL.seqF_rt, DL.seqF_ite, DL.loopF_nx, DL.loopF_rt, DL.loopF_ite, DL.finR_rt, DL.finRM_rt, DL.finN_rt, DL.finN_nx, DL.finNM_rt, DL.finNM_nx, DL.finR_ite, DL.lt_eq, ite_true, ite_false, Bool.not_true, Bool.not_false, Bool.true_and, Bool.and_true, Bool.false_and, Bool.and_false, Bool.true_or, Bool.or_true, Bool.false_or, Bool.or_false, Bool.false_eq_true, decide_true, decide_false, beq_self_eq_true, beq_iff_eq, decide_eq_true_eq, reduceIte, if_true, if_false] at h
    simp -implicitDefEqProofs only [DL.bnd_ok, DL.bnd_eta, DL.bnd_bad, DL.bnd_ex, DL.bnd_ite, DL.seqF_nx, DL.seqF_rt, DL.seqF_ite, DL.loopF_nx, DL.loopF_rt, DL.loopF_ite, DL.finR_rt, DL.finRM_rt, DL.finN_rt, DL.finN_nx, DL.finNM_rt, DL.finNM_nx, DL.finR_ite, DL.lt_eq, ite_true, ite_false, Bool.not_true, Bool.not_false, Bool.true_and, Bool.and_true, Bool.false_and, Bool.and_false, Bool.true_or, Bool.or_true, Bool.false_or, Bool.or_false, Bool.false_eq_true, decide_true, decide_false, beq_self_eq_true, beq_iff_eq, decide_eq_true_eq, reduceIte, if_true, if_false, c, g]
    exact h
  · obtain ⟨n, m, h⟩ := key (7919 * k + 13)
    refine ⟨n, m, ?_⟩
    unfold y__law_box
    simp -implicitDefEqProofs only [DL.bnd_ok, DL.bnd_eta, DL.bnd_bad, DL.bnd_ex, DL.bnd_ite, DL.seqF_nx, DL.seqF_rt, DL.seqF_ite, DL.loopF_nx, DL.loopF_rt, DL.loopF_ite, DL.finR_rt, DL.finRM_rt, DL.finN_rt, DL.finN_nx, DL.finNM_rt, DL.finNM_nx, DL.finR_ite, DL.lt_eq, ite_true, ite_false, Bool.not_true, Bool.not_false, Bool.true_and, Bool.and_true, Bool.false_and, Bool.and_false, Bool.true_or, Bool.or_true, Bool.false_or, Bool.or_false, Bool.false_eq_true, decide_true, decide_false, beq_self_eq_true, beq_iff_eq, decide_eq_true_eq, reduceIte, if_true, if_false] at h
    simp -implicitDefEqProofs only [DL.bnd_ok, DL.bnd_eta, DL.bnd_bad, DL.bnd_ex, DL.bnd_ite, DL.seqF_nx, DL.seqF_rt, DL.seqF_ite, DL.loopF_nx, DL.loopF_rt, DL.loopF_ite, DL.finR_rt, DL.finRM_rt, DL.finN_rt, DL.finN_nx, DL.finNM_rt, DL.finNM_nx, DL.finR_ite, DL.lt_eq, ite_true, ite_false, Bool.not_true, Bool.not_false, Bool.true_and, Bool.and_true, Bool.false_and, Bool.and_false, Bool.true_or, Bool.or_true, Bool.false_or, Bool.or_false, Bool.false_eq_true, decide_true, decide_false, beq_self_eq_true, beq_iff_eq, decide_eq_true_eq, reduceIte, if_true, if_false, c]
    exact h

end LW

end
section
set_option maxRecDepth 100000
set_option maxHeartbeats 2000000
namespace LW
open PySem PySem.Spec PyProof.Rows L2 DL
/-- a sea -/
structure Sea2 (s : List (List Int)) (h : Nat) : Prop where
  col : ∀ c ∈ s, c.length = h ∧ ∀ d ∈ c, 0 ≤ d ∧ d ≤ 9
  n2 : 2 ≤ s.length
  n16 : s.length ≤ 16
  h1 : 1 ≤ h
  h9 : h ≤ 9
theorem pick4 {a b c e : Int} {i : Int} (h0 : 0 ≤ i) (h1 : i < 4) : ∃ v, ixO [a, b, c, e] i = .ok v ∧ (v = a ∨ v = b ∨ v = c ∨ v = e) := by
  obtain ⟨n, rfl⟩ : ∃ n : Nat, i = (n : Int) := ⟨i.toNat, by omega⟩
  match n, h1 with
  | 0, _ => exact ⟨a, ixO_nat rfl, .inl rfl⟩
  | 1, _ => exact ⟨b, ixO_nat rfl, .inr (.inl rfl)⟩
  | 2, _ => exact ⟨c, ixO_nat rfl, .inr (.inr (.inl rfl))⟩
  | 3, _ => exact ⟨e, ixO_nat rfl, .inr (.inr (.inr rfl))⟩
  | n + 4, h => omega
theorem pick2i {a b : Int} {i : Int} (h0 : 0 ≤ i) (h1 : i < 2) : ∃ v, ixO [a, b] i = .ok v ∧ (v = a ∨ v = b) := by
  obtain ⟨n, rfl⟩ : ∃ n : Nat, i = (n : Int) := ⟨i.toNat, by omega⟩
  match n, h1 with
  | 0, _ => exact ⟨a, ixO_nat rfl, .inl rfl⟩
  | 1, _ => exact ⟨b, ixO_nat rfl, .inr rfl⟩
  | n + 2, h => omega
theorem sea1_ok (way : Int × List Int) (hw : 0 ≤ way.1 ∧ way.1 < 4) (y n m : Int) (c : List Int) (hc : c.length ≤ 1000) : ∃ n' m' d, yl__law_sea_1 way y ([n, m], c) = .ok (.nx ([n', m'], c ++ [d])) ∧ 0 ≤ d ∧ d ≤ 9 := by
  obtain ⟨d1, n1, m1, t1, a1, a2⟩ := take_ok n m 9 (by decide) (by decide)
  obtain ⟨d2, n2, m2, t2, b1, b2⟩ := take_ok n1 m1 4 (by decide) (by decide)
  obtain ⟨v, g1, v1⟩ := pick4 (a := 9) (b := 5) (c := 3) (e := 1 + d1) b1 b2
  obtain ⟨q, g2, q1⟩ := pick4 (a := 9) (b := 4) (c := 30) (e := 2) hw.1 hw.2
  obtain ⟨d3, n3, m3, t3, c1, c2⟩ := take_ok n2 m2 q (by omega) (by omega)
  by_cases z : d3 = 0
  · obtain ⟨d4, n4, m4, t4, e1, e2⟩ := take_ok n3 m3 4 (by decide) (by decide)
    obtain ⟨u, g3, u1⟩ := pick4 (a := 0) (b := 0) (c := 1) (e := 2) e1 e2
    have ap : appO c u = .ok (c ++ [u]) := appO_ok (by omega)
    exact ⟨n4, m4, u, by unfold yl__law_sea_1; simp -implicitDefEqProofs only [DL.bnd_ok, DL.bnd_eta, DL.bnd_bad, DL.bnd_ex, DL.bnd_ite, DL.seqF_nx, DL.seqF_rt, DL.seqF_ite, DL.loopF_nx, DL.loopF_rt, DL.loopF_ite, DL.finR_rt, DL.finRM_rt, DL.finN_rt, DL.finN_nx, DL.finNM_rt, DL.finNM_nx, DL.finR_ite, DL.lt_eq, ite_true, ite_false, Bool.not_true, Bool.not_false, Bool.true_and, Bool.and_true, Bool.false_and, Bool.and_false, Bool.true_or, Bool.or_true, Bool.false_or, Bool.or_false, Bool.false_eq_true, decide_true, decide_false, beq_self_eq_true, beq_iff_eq, decide_eq_true_eq, reduceIte, if_true, if_false, t1, t2, g1, g2, t3, z, t4, g3, ap], by omega, by omega⟩
  · have ap : appO c v = .ok (c ++ [v]) := appO_ok (by omega)
    exact ⟨n3, m3, v, by unfold yl__law_sea_1; simp -implicitDefEqProofs only [DL.bnd_ok, DL.bnd_eta, DL.bnd_bad, DL.bnd_ex, DL.bnd_ite, DL.seqF_nx, DL.seqF_rt, DL.seqF_ite, DL.loopF_nx, DL.loopF_rt, DL.loopF_ite, DL.finR_rt, DL.finRM_rt, DL.finN_rt, DL.finN_nx, DL.finNM_rt, DL.finNM_nx, DL.finR_ite, DL.lt_eq, ite_true, ite_false, Bool.not_true, Bool.not_false, Bool.true_and, Bool.and_true, Bool.false_and, Bool.and_false, Bool.true_or, Bool.or_true, Bool.false_or, Bool.or_false, Bool.false_eq_true, decide_true, decide_false, beq_self_eq_true, beq_iff_eq, decide_eq_true_eq, reduceIte, if_true, if_false, t1, t2, g1, g2, t3, z, ap], by omega, by omega⟩
theorem sea2_ok (rows way : Int × List Int) (h : Nat) (hr : rows.1 = h) (h9 : h ≤ 9) (hw : 0 ≤ way.1 ∧ way.1 < 4) (y n m : Int) (s : List (List Int)) (hs : s.length ≤ 1000) : ∃ n' m' c, yl__law_sea_2 rows way y ([n, m], s) = .ok (.nx ([n', m'], s ++ [c])) ∧ c.length = h ∧ ∀ d ∈ c, 0 ≤ d ∧ d ≤ 9 := by
  have rg : rng1 rows.1 = .ok (irng 0 h) := by rw [hr]; exact rng1_ok (by omega) (by omega)
  obtain ⟨st, h1, n', m', c, h2, h3, h4⟩ := forF_inv (κ := List Int × List (List Int)) (body := yl__law_sea_1 way) (fun xs (st : List Int × List Int) => ∃ n m c, st = ([n, m], c) ∧ c.length + xs.length = h ∧ ∀ d ∈ c, 0 ≤ d ∧ d ≤ 9) (fun y ys st hst => by
    obtain ⟨n, m, c, rfl, e1, e2⟩ := hst
    rw [List.length_cons] at e1
    obtain ⟨n', m', d, k1, k2, k3⟩ := sea1_ok way hw y n m c (by omega)
    exact ⟨_, k1, n', m', c ++ [d], rfl, by simp; omega, fun x hx => by
      rcases List.mem_append.mp hx with z | z
      · exact e2 x z
      · rw [List.mem_singleton.mp z]; exact ⟨k2, k3⟩⟩) (irng 0 h) ([n, m], []) ⟨n, m, [], rfl, by rw [irng_len]; simp, fun d hd => by cases hd⟩
  subst h2
  have ap : appO s c = .ok (s ++ [c]) := appO_ok (by omega)
  exact ⟨n', m', c, by unfold yl__law_sea_2; simp -implicitDefEqProofs only [DL.bnd_ok, DL.bnd_eta, DL.bnd_bad, DL.bnd_ex, DL.bnd_ite, DL.seqF_nx, DL.seqF_rt, DL.seqF_ite, DL.loopF_nx, DL.loopF_rt, DL.loopF_ite, DL.finR_rt, DL.finRM_rt, DL.finN_rt, DL.finN_nx, DL.finNM_rt, DL.finNM_nx, DL.finR_ite, DL.lt_eq, ite_true, ite_false, Bool.not_true, Bool.not_false, Bool.true_and, Bool.and_true, Bool.false_and, Bool.and_false, Bool.true_or, Bool.or_true, Bool.false_or, Bool.or_false, Bool.false_eq_true, decide_true, decide_false, beq_self_eq_true, beq_iff_eq, decide_eq_true_eq, reduceIte, if_true, if_false, rg, h1, ap], by simpa using h3, h4⟩
theorem sea_ok (n m w hh : Int) (hw : 2 ≤ w ∧ w ≤ 16) (h9 : 1 ≤ hh ∧ hh ≤ 9) : ∃ s h n' m', y__law_sea [n, m] w hh = .ok (s, [n', m']) ∧ Sea2 s h := by
  obtain ⟨d1, n1, m1, t1, a1, a2⟩ := take_ok n m (w - 1) (by omega) (by omega)
  obtain ⟨d2, n2, m2, t2, b1, b2⟩ := take_ok n1 m1 hh (by omega) (by omega)
  obtain ⟨d3, n3, m3, t3, c1, c2⟩ := take_ok n2 m2 4 (by decide) (by decide)
  obtain ⟨h, eh⟩ : ∃ h : Nat, 1 + d2 = (h : Int) := ⟨(1 + d2).toNat, by omega⟩
  have rg : rng1 (2 + d1) = .ok (irng 0 (2 + d1)) := rng1_ok (by omega) (by omega)
  obtain ⟨st, h1, n', m', s, h2, h3, h4⟩ := forF_inv (κ := Unit) (body := yl__law_sea_2 (1 + d2, [n2, m2]) (d3, [n3, m3])) (fun xs (st : List Int × List (List Int)) => ∃ n m s, st = ([n, m], s) ∧ s.length + xs.length = (2 + d1).toNat ∧ ∀ c ∈ s, c.length = h ∧ ∀ d ∈ c, 0 ≤ d ∧ d ≤ 9) (fun y ys st hst => by
    obtain ⟨n, m, s, rfl, e1, e2⟩ := hst
    rw [List.length_cons] at e1
    obtain ⟨n', m', c, k1, k2, k3⟩ := sea2_ok (1 + d2, [n2, m2]) (d3, [n3, m3]) h eh (by omega) ⟨c1, c2⟩ y n m s (by omega)
    exact ⟨_, k1, n', m', s ++ [c], rfl, by simp; omega, fun x hx => by
      rcases List.mem_append.mp hx with z | z
      · exact e2 x z
      · rw [List.mem_singleton.mp z]; exact ⟨k2, k3⟩⟩) (irng 0 (2 + d1)) ([n3, m3], []) ⟨n3, m3, [], rfl, by rw [irng_len]; simp, fun c hc => by cases hc⟩
  subst h2
  rw [List.length_nil, Nat.add_zero] at h3
  refine ⟨s, h, n', m', ?_, h4, by omega, by omega, by omega, by omega⟩
  unfold y__law_sea
  simp -implicitDefEqProofs only [DL.bnd_ok, DL.bnd_eta, DL.bnd_bad, DL.bnd_ex, DL.bnd_ite, DL.seqF_nx, DL.seqF_rt, DL.seqF_ite, DL.loopF_nx, DL.loopF_rt, DL.loopF_ite, DL.finR_rt, DL.finRM_rt, DL.finN_rt, DL.finN_nx, DL.finNM_rt, DL.finNM_nx, DL.finR_ite, DL.lt_eq, ite_true, ite_false, Bool.not_true, Bool.not_false, Bool.true_and, Bool.and_true, Bool.false_and, Bool.and_false, Bool.true_or, Bool.or_true, Bool.false_or, Bool.or_false, Bool.false_eq_true, decide_true, decide_false, beq_self_eq_true, beq_iff_eq, decide_eq_true_eq, reduceIte, if_true, if_false, t1, t2, t3, rg, h1]
theorem Sea2.rows {s : List (List Int)} {h : Nat} (w : Sea2 s h) : ∃ c, ixO s 0 = .ok c ∧ c.length = h := by
  obtain ⟨c0, s', hs⟩ : ∃ c0 s', s = c0 :: s' := by
    cases s with
    | nil => have := w.n2; simp at this
    | cons a b => exact ⟨a, b, rfl⟩
  exact ⟨c0, by rw [hs]; exact ixO_0, (w.col c0 (by rw [hs]; exact List.mem_cons_self)).1⟩
theorem cell_ok {s : List (List Int)} {h : Nat} (w : Sea2 s h) (n m : Int) : ∃ c n' m', y__law_cell_of [n, m] s = .ok (c, [n', m']) ∧ 0 ≤ c.1 ∧ c.1 < s.length ∧ 0 ≤ c.2 ∧ c.2 < h := by
  have n2 := w.n2; have n16 := w.n16; have h1 := w.h1; have h9 := w.h9
  obtain ⟨d1, n1, m1, t1, a1, a2⟩ := take_ok n m s.length (by omega) (by omega)
  obtain ⟨d2, n2', m2, t2, b1, b2⟩ := take_ok n1 m1 h (by omega) (by omega)
  obtain ⟨c, g, e⟩ := w.rows
  refine ⟨(d1, d2), n2', m2, ?_, a1, a2, b1, b2⟩
  unfold y__law_cell_of
  simp -implicitDefEqProofs only [DL.bnd_ok, DL.bnd_eta, DL.bnd_bad, DL.bnd_ex, DL.bnd_ite, DL.seqF_nx, DL.seqF_rt, DL.seqF_ite, DL.loopF_nx, DL.loopF_rt, DL.loopF_ite, DL.finR_rt, DL.finRM_rt, DL.finN_rt, DL.finN_nx, DL.finNM_rt, DL.finNM_nx, DL.finR_ite, DL.lt_eq, ite_true, ite_false, Bool.not_true, Bool.not_false, Bool.true_and, Bool.and_true, Bool.false_and, Bool.and_false, Bool.true_or, Bool.or_true, Bool.false_or, Bool.or_false, Bool.false_eq_true, decide_true, decide_false, beq_self_eq_true, beq_iff_eq, decide_eq_true_eq, reduceIte, if_true, if_false, t1, g, e, t2]

end LW

end
section
set_option maxRecDepth 100000
set_option maxHeartbeats 2000000
namespace LW
open PySem PySem.Spec PyProof.Rows L2 DL
/-- lists in strict order with the same things are one -/
theorem pw_uniq {α : Type} {r : α → α → Prop} (irr : ∀ a, ¬ r a a) (asy : ∀ a b, r a b → ¬ r b a) : ∀ {xs ys : List α}, xs.Pairwise r → ys.Pairwise r → (∀ k, k ∈ xs ↔ k ∈ ys) → xs = ys
  | [], [], _, _, _ => rfl
  | [], y :: ys, _, _, h => absurd ((h y).mpr List.mem_cons_self) (by simp)
  | x :: xs, [], _, _, h => absurd ((h x).mp List.mem_cons_self) (by simp)
  | x :: xs, y :: ys, h1, h2, h => by
    rw [List.pairwise_cons] at h1 h2
    have e : x = y := by
      rcases List.mem_cons.mp ((h x).mp List.mem_cons_self) with e | m
      · exact e
      · rcases List.mem_cons.mp ((h y).mpr List.mem_cons_self) with e | m'
        · exact e.symm
        · exact absurd (h1.1 y m') (asy _ _ (h2.1 x m))
    subst e
    congr 1
    refine pw_uniq irr asy h1.2 h2.2 fun k => ⟨fun m => ?_, fun m => ?_⟩
    · rcases List.mem_cons.mp ((h k).mp (List.mem_cons_of_mem _ m)) with e | m'
      · subst e; exact absurd (h1.1 _ m) (irr _)
      · exact m'
    · rcases List.mem_cons.mp ((h k).mpr (List.mem_cons_of_mem _ m)) with e | m'
      · subst e; exact absurd (h2.1 _ m) (irr _)
      · exact m'
abbrev Cell := Int × Int
def ltC (p q : Cell) : Prop := p.1 < q.1 ∨ (p.1 = q.1 ∧ p.2 < q.2)
def srtC (xs : List Cell) : List Cell := xs.mergeSort leII
theorem srtC_mem (xs : List Cell) (k : Cell) : k ∈ srtC xs ↔ k ∈ xs := List.mem_mergeSort
theorem leII_iff (p q : Cell) : leII p q = true ↔ (p.1 < q.1 ∨ (p.1 = q.1 ∧ p.2 ≤ q.2)) := decide_eq_true_iff
theorem srtC_srt {xs : List Cell} (h : xs.Nodup) : (srtC xs).Pairwise ltC := by
  have a : (srtC xs).Pairwise (fun p q => leII p q = true) := List.pairwise_mergeSort (le := leII) (fun a b c h1 h2 => by rw [leII_iff] at *; omega) (fun a b => by rw [Bool.or_eq_true, leII_iff, leII_iff]; omega) xs
  have b : (srtC xs).Nodup := (List.mergeSort_perm xs leII).nodup_iff.mpr h
  refine (List.Pairwise.and a b).imp fun {p q} ⟨h1, h2⟩ => ?_
  rw [leII_iff] at h1
  unfold ltC
  rcases h1 with h1 | ⟨h1, h3⟩
  · exact .inl h1
  · refine .inr ⟨h1, ?_⟩
    have : p.2 ≠ q.2 := fun e => h2 (Prod.ext h1 e)
    omega
theorem ltC_uniq {xs ys : List Cell} (h1 : xs.Pairwise ltC) (h2 : ys.Pairwise ltC) (h : ∀ k, k ∈ xs ↔ k ∈ ys) : xs = ys :=
  pw_uniq (fun a => by unfold ltC; omega) (fun a b => by unfold ltC; omega) h1 h2 h
theorem ltC_nodup {xs : List Cell} (h : xs.Pairwise ltC) : xs.Nodup := h.imp fun {a b} h e => by subst e; unfold ltC at h; omega
/-! ### where one comes -/
def wat (s : List (List Int)) (h : Nat) (c : Cell) : Bool := decide (0 ≤ c.1 ∧ c.1 < s.length ∧ 0 ≤ c.2 ∧ c.2 < h ∧ 0 < (s.getD c.1.toNat []).getD c.2.toNat 0)
def Inb (s : List (List Int)) (h : Nat) (c : Cell) : Prop := 0 ≤ c.1 ∧ c.1 < s.length ∧ 0 ≤ c.2 ∧ c.2 < h
theorem wat_inb {s : List (List Int)} {h : Nat} {c : Cell} (w : wat s h c = true) : Inb s h c := by
  have := of_decide_eq_true w
  exact ⟨this.1, this.2.1, this.2.2.1, this.2.2.2.1⟩
def nb (c : Cell) : List Cell := [(c.1 - 1, c.2), (c.1, c.2 - 1), (c.1, c.2 + 1), (c.1 + 1, c.2)]
def nbL (c : Cell) : List Cell := [(c.1 - 1, c.2), (c.1 + 1, c.2), (c.1, c.2 - 1), (c.1, c.2 + 1)]
theorem nbL_mem (c x : Cell) : x ∈ nbL c ↔ x ∈ nb c := by
  unfold nbL nb
  simp only [List.mem_cons, List.not_mem_nil, or_false]
  constructor <;> rintro (h | h | h | h) <;> simp [h]
def Rch (s : List (List Int)) (h : Nat) (c0 : Cell) : Nat → Cell → Prop
  | 0, x => x = c0
  | k + 1, x => Rch s h c0 k x ∨ (wat s h x = true ∧ ∃ y, Rch s h c0 k y ∧ x ∈ nb y)
theorem Rch.inb {s : List (List Int)} {h : Nat} {c0 : Cell} (hc : Inb s h c0) : ∀ {k : Nat} {x : Cell}, Rch s h c0 k x → Inb s h x
  | 0, _, e => by rw [show _ = c0 from e]; exact hc
  | k + 1, _, .inl r => Rch.inb hc r
  | k + 1, _, .inr ⟨w, _⟩ => wat_inb w
/-- nothing is added any more -/
theorem Rch.stop {s : List (List Int)} {h : Nat} {c0 : Cell} {k : Nat} (st : ∀ x, Rch s h c0 (k + 1) x → Rch s h c0 k x) : ∀ (j : Nat) (x : Cell), Rch s h c0 (k + j) x ↔ Rch s h c0 k x
  | 0, x => Iff.rfl
  | j + 1, x => by
    have ih := Rch.stop st j
    show (Rch s h c0 (k + j) x ∨ (wat s h x = true ∧ ∃ y, Rch s h c0 (k + j) y ∧ x ∈ nb y)) ↔ _
    constructor
    · rintro (r | ⟨w, y, r, m⟩)
      · exact (ih x).mp r
      · exact st x (.inr ⟨w, y, (ih y).mp r, m⟩)
    · intro r; exact .inl ((ih x).mpr r)
/-- all cells -/
def allC (s : List (List Int)) (h : Nat) : List Cell := (irng 0 s.length).flatMap fun i => (irng 0 h).map fun j => (i, j)
theorem allC_mem {s : List (List Int)} {h : Nat} {c : Cell} (w : Inb s h c) : c ∈ allC s h := by
  unfold allC
  rw [List.mem_flatMap]
  exact ⟨c.1, irng_mem.mpr ⟨w.1, w.2.1⟩, List.mem_map.mpr ⟨c.2, irng_mem.mpr ⟨w.2.2.1, w.2.2.2⟩, rfl⟩⟩
theorem allC_len (s : List (List Int)) (h : Nat) : (allC s h).length = s.length * h := by
  unfold allC
  rw [List.length_flatMap]
  simp only [List.length_map, irng_len]
  rw [List.map_const', List.sum_replicate_nat, irng_len]
  congr 1 <;> omega
theorem inb_len {s : List (List Int)} {h : Nat} (n16 : s.length ≤ 16) (h9 : h ≤ 9) {xs : List Cell} (hn : xs.Nodup) (hi : ∀ x ∈ xs, Inb s h x) : xs.length ≤ 144 := by
  have a := nodup_len hn fun x hx => allC_mem (hi x hx)
  rw [allC_len] at a
  have := Nat.mul_le_mul n16 h9
  omega
/-! ### dicts by their keys -/
def keys {κ α : Type} (m : List (κ × α)) : List κ := m.map (·.1)
theorem keys_len {κ α : Type} (m : List (κ × α)) : (keys m).length = m.length := List.length_map _
section
variable {κ α : Type} [DecidableEq κ]
theorem look_keys (k : κ) : ∀ m : List (κ × α), (lookG k m).isSome = decide (k ∈ keys m)
  | [] => rfl
  | p :: m => by
    rw [lookG]
    by_cases c : p.1 = k
    · rw [if_pos c, decide_eq_true (show k ∈ keys (p :: m) from by rw [← c]; exact List.mem_cons_self)]; rfl
    · rw [if_neg c, look_keys k m]
      have : (k ∈ keys (p :: m)) ↔ (k ∈ keys m) := by
        show k ∈ p.1 :: keys m ↔ _
        rw [List.mem_cons]
        exact ⟨fun h => h.resolve_left fun e => c e.symm, .inr⟩
      simp only [this]
theorem look_yes {k : κ} {m : List (κ × α)} (h : k ∈ keys m) : (lookG k m).isSome = true := by rw [look_keys]; exact decide_eq_true h
theorem look_no {k : κ} {m : List (κ × α)} (h : k ∉ keys m) : (lookG k m).isSome = false := by rw [look_keys]; exact decide_eq_false h
theorem any_keys (k : κ) (m : List (κ × α)) : m.any (fun p => decide (p.1 = k)) = decide (k ∈ keys m) := by
  induction m with
  | nil => rfl
  | cons p m ih =>
    rw [List.any_cons, ih]
    have : (k ∈ keys (p :: m)) ↔ (p.1 = k ∨ k ∈ keys m) := by
      show k ∈ p.1 :: keys m ↔ _
      rw [List.mem_cons]
      exact ⟨fun h => h.imp Eq.symm id, fun h => h.imp Eq.symm id⟩
    simp only [this, Bool.decide_or]
theorem keys_put (m : List (κ × α)) (k : κ) (v : α) : keys (putG m k v) = if k ∈ keys m then keys m else keys m ++ [k] := by
  unfold putG
  rw [any_keys]
  by_cases c : k ∈ keys m
  · rw [decide_eq_true c, if_pos rfl, if_pos c]
    unfold keys
    rw [List.map_map]
    refine List.map_congr_left fun p _ => ?_
    show (if p.1 = k then (p.1, v) else p).1 = p.1
    split <;> rfl
  · rw [decide_eq_false c, if_neg Bool.false_ne_true, if_neg c]
    unfold keys
    rw [List.map_append]; rfl
theorem put_mem {m : List (κ × α)} {k : κ} {v : α} {x : κ} : x ∈ keys (putG m k v) ↔ x ∈ keys m ∨ x = k := by
  rw [keys_put]
  by_cases c : k ∈ keys m
  · rw [if_pos c]; exact ⟨.inl, fun h => h.elim id fun e => by rw [e]; exact c⟩
  · rw [if_neg c, List.mem_append, List.mem_singleton]
theorem put_nodup {m : List (κ × α)} {k : κ} {v : α} (h : (keys m).Nodup) : (keys (putG m k v)).Nodup := by
  rw [keys_put]
  by_cases c : k ∈ keys m
  · rw [if_pos c]; exact h
  · rw [if_neg c, List.nodup_append]
    refine ⟨h, by simp, fun a ha b hb => ?_⟩
    rw [List.mem_singleton.mp hb]
    exact fun e => c (by rw [← e]; exact ha)
theorem upd_mem : ∀ {q m : List (κ × α)} {x : κ}, x ∈ keys (updG m q) ↔ x ∈ keys m ∨ x ∈ keys q
  | [], m, x => ⟨.inl, fun h => h.elim id fun e => by cases e⟩
  | p :: q, m, x => by
    show x ∈ keys (updG (putG m p.1 p.2) q) ↔ _ ∨ x ∈ p.1 :: keys q
    rw [upd_mem, put_mem, List.mem_cons, or_assoc]
theorem upd_nodup : ∀ {q m : List (κ × α)}, (keys m).Nodup → (keys (updG m q)).Nodup
  | [], m, h => h
  | p :: q, m, h => upd_nodup (q := q) (put_nodup h)
end

end LW

end
section
set_option maxRecDepth 100000
set_option maxHeartbeats 2000000
namespace LW
open PySem PySem.Spec PyProof.Rows L2 DL
theorem is_whole_eq (a l h : Int) : y_is_whole a l h = .ok (decide (l ≤ a) && decide (a ≤ h)) := rfl
theorem is_whole_ok {a l h : Int} (h1 : l ≤ a) (h2 : a ≤ h) : y_is_whole a l h = .ok true := by rw [is_whole_eq, decide_eq_true h1, decide_eq_true h2]; rfl
theorem is_column_ok {c : List Int} {h : Nat} (hl : c.length = h) (hz : h ≤ 9) (hd : ∀ d ∈ c, 0 ≤ d ∧ d ≤ 9) : y_is_column c h = .ok true := by
  obtain ⟨bs, b1, b2⟩ := compO_all (f := fun x => y_is_whole x 0 9) (xs := c) (by omega) (fun y hy => is_whole_ok (hd y hy).1 (hd y hy).2)
  unfold y_is_column
  simp -implicitDefEqProofs only [DL.bnd_ok, DL.bnd_eta, DL.bnd_bad, DL.bnd_ex, DL.bnd_ite, DL.seqF_nx, DL.seqF_rt, DL.seqF_ite, DL.loopF_nx, DL.loopF_rt, DL.loopF_ite, DL.finR_rt, DL.finRM_rt, DL.finN_rt, DL.finN_nx, DL.finNM_rt, DL.finNM_nx, DL.finR_ite, DL.lt_eq, ite_true, ite_false, Bool.not_true, Bool.not_false, Bool.true_and, Bool.and_true, Bool.false_and, Bool.and_false, Bool.true_or, Bool.or_true, Bool.false_or, Bool.or_false, Bool.false_eq_true, decide_true, decide_false, beq_self_eq_true, beq_iff_eq, decide_eq_true_eq, reduceIte, if_true, if_false, hl, b1, b2]
theorem is_sea_ok {s : List (List Int)} {h : Nat} (w : Sea2 s h) : y_is_sea s = .ok true := by
  have n2 := w.n2; have n16 := w.n16; have h1 := w.h1; have h9 := w.h9
  obtain ⟨c, g, e⟩ := w.rows
  obtain ⟨bs, b1, b2⟩ := compO_all (f := fun x => y_is_column x (h : Int)) (xs := s) (by omega) (fun y hy => is_column_ok (w.col y hy).1 h9 (w.col y hy).2)
  have e1 : (2 : Int) ≤ (s.length : Int) := by omega
  have e2 : (s.length : Int) ≤ 16 := by omega
  have e3 : (1 : Int) ≤ (h : Int) := by omega
  have e4 : (h : Int) ≤ 9 := by omega
  unfold y_is_sea
  simp -implicitDefEqProofs only [DL.bnd_ok, DL.bnd_eta, DL.bnd_bad, DL.bnd_ex, DL.bnd_ite, DL.seqF_nx, DL.seqF_rt, DL.seqF_ite, DL.loopF_nx, DL.loopF_rt, DL.loopF_ite, DL.finR_rt, DL.finRM_rt, DL.finN_rt, DL.finN_nx, DL.finNM_rt, DL.finNM_nx, DL.finR_ite, DL.lt_eq, ite_true, ite_false, Bool.not_true, Bool.not_false, Bool.true_and, Bool.and_true, Bool.false_and, Bool.and_false, Bool.true_or, Bool.or_true, Bool.false_or, Bool.or_false, Bool.false_eq_true, decide_true, decide_false, beq_self_eq_true, beq_iff_eq, decide_eq_true_eq, reduceIte, if_true, if_false, g, e, b1, b2, e1, e2, e3, e4]
theorem need_sea_ok {s : List (List Int)} {h : Nat} (w : Sea2 s h) : y_need_sea s = .ok () := by
  unfold y_need_sea
  simp -implicitDefEqProofs only [DL.bnd_ok, DL.bnd_eta, DL.bnd_bad, DL.bnd_ex, DL.bnd_ite, DL.seqF_nx, DL.seqF_rt, DL.seqF_ite, DL.loopF_nx, DL.loopF_rt, DL.loopF_ite, DL.finR_rt, DL.finRM_rt, DL.finN_rt, DL.finN_nx, DL.finNM_rt, DL.finNM_nx, DL.finR_ite, DL.lt_eq, ite_true, ite_false, Bool.not_true, Bool.not_false, Bool.true_and, Bool.and_true, Bool.false_and, Bool.and_false, Bool.true_or, Bool.or_true, Bool.false_or, Bool.or_false, Bool.false_eq_true, decide_true, decide_false, beq_self_eq_true, beq_iff_eq, decide_eq_true_eq, reduceIte, if_true, if_false, is_sea_ok w]
theorem is_cell_eq {s : List (List Int)} {h : Nat} (w : Sea2 s h) (c : Cell) : y_is_cell s c = .ok (decide (0 ≤ c.1 ∧ c.1 < s.length ∧ 0 ≤ c.2 ∧ c.2 < h)) := by
  obtain ⟨c0, g, e⟩ := w.rows
  unfold y_is_cell
  simp -implicitDefEqProofs only [DL.bnd_ok, DL.bnd_eta, DL.bnd_bad, DL.bnd_ex, DL.bnd_ite, DL.seqF_nx, DL.seqF_rt, DL.seqF_ite, DL.loopF_nx, DL.loopF_rt, DL.loopF_ite, DL.finR_rt, DL.finRM_rt, DL.finN_rt, DL.finN_nx, DL.finNM_rt, DL.finNM_nx, DL.finR_ite, DL.lt_eq, ite_true, ite_false, Bool.not_true, Bool.not_false, Bool.true_and, Bool.and_true, Bool.false_and, Bool.and_false, Bool.true_or, Bool.or_true, Bool.false_or, Bool.or_false, Bool.false_eq_true, decide_true, decide_false, beq_self_eq_true, beq_iff_eq, decide_eq_true_eq, reduceIte, if_true, if_false, is_whole_eq, g, e]
  by_cases a : 0 ≤ c.1 ∧ c.1 ≤ (s.length : Int) - 1
  · by_cases b : 0 ≤ c.2 ∧ c.2 ≤ (h : Int) - 1
    · have q : (0 ≤ c.1 ∧ c.1 < (s.length : Int) ∧ 0 ≤ c.2 ∧ c.2 < (h : Int)) := by omega
      rw [decide_eq_true q]
      simp -implicitDefEqProofs only [DL.bnd_ok, DL.bnd_eta, DL.bnd_bad, DL.bnd_ex, DL.bnd_ite, DL.seqF_nx, DL.seqF_rt, DL.seqF_ite, DL.loopF_nx, DL.loopF_rt, DL.loopF_ite, DL.finR_rt, DL.finRM_rt, DL.finN_rt, DL.finN_nx, DL.finNM_rt, DL.finNM_nx, DL.finR_ite, DL.lt_eq, ite_true, ite_false, Bool.not_true, Bool.not_false, Bool.true_and, Bool.and_true, Bool.false_and, Bool.and_false, Bool.true_or, Bool.or_true, Bool.false_or, Bool.or_false, Bool.false_eq_true, decide_true, decide_false, beq_self_eq_true, beq_iff_eq, decide_eq_true_eq, reduceIte, if_true, if_false, a.1, a.2, b.1, b.2]
    · have q : ¬ (0 ≤ c.1 ∧ c.1 < (s.length : Int) ∧ 0 ≤ c.2 ∧ c.2 < (h : Int)) := by omega
      have b' : (decide (0 ≤ c.2) && decide (c.2 ≤ (h : Int) - 1)) = false := by
        cases e : (decide (0 ≤ c.2) && decide (c.2 ≤ (h : Int) - 1)) with
        | false => rfl
        | true => exact absurd (by simpa using e) b
      rw [decide_eq_false q]
      simp -implicitDefEqProofs only [DL.bnd_ok, DL.bnd_eta, DL.bnd_bad, DL.bnd_ex, DL.bnd_ite, DL.seqF_nx, DL.seqF_rt, DL.seqF_ite, DL.loopF_nx, DL.loopF_rt, DL.loopF_ite, DL.finR_rt, DL.finRM_rt, DL.finN_rt, DL.finN_nx, DL.finNM_rt, DL.finNM_nx, DL.finR_ite, DL.lt_eq, ite_true, ite_false, Bool.not_true, Bool.not_false, Bool.true_and, Bool.and_true, Bool.false_and, Bool.and_false, Bool.true_or, Bool.or_true, Bool.false_or, Bool.or_false, Bool.false_eq_true, decide_true, decide_false, beq_self_eq_true, beq_iff_eq, decide_eq_true_eq, reduceIte, if_true, if_false, a.1, a.2, b']
  · have q : ¬ (0 ≤ c.1 ∧ c.1 < (s.length : Int) ∧ 0 ≤ c.2 ∧ c.2 < (h : Int)) := by omega
    have a' : (decide (0 ≤ c.1) && decide (c.1 ≤ (s.length : Int) - 1)) = false := by
      cases e : (decide (0 ≤ c.1) && decide (c.1 ≤ (s.length : Int) - 1)) with
      | false => rfl
      | true => exact absurd (by simpa using e) a
    rw [decide_eq_false q]
    simp -implicitDefEqProofs only [DL.bnd_ok, DL.bnd_eta, DL.bnd_bad, DL.bnd_ex, DL.bnd_ite, DL.seqF_nx, DL.seqF_rt, DL.seqF_ite, DL.loopF_nx, DL.loopF_rt, DL.loopF_ite, DL.finR_rt, DL.finRM_rt, DL.finN_rt, DL.finN_nx, DL.finNM_rt, DL.finNM_nx, DL.finR_ite, DL.lt_eq, ite_true, ite_false, Bool.not_true, Bool.not_false, Bool.true_and, Bool.and_true, Bool.false_and, Bool.and_false, Bool.true_or, Bool.or_true, Bool.false_or, Bool.or_false, Bool.false_eq_true, decide_true, decide_false, beq_self_eq_true, beq_iff_eq, decide_eq_true_eq, reduceIte, if_true, if_false, a']
theorem depth_ok {s : List (List Int)} {h : Nat} (w : Sea2 s h) {c : Cell} (i : Inb s h c) : ∃ col, ixO s c.1 = .ok col ∧ ixO col c.2 = .ok ((s.getD c.1.toNat []).getD c.2.toNat 0) ∧ y_depth_at s c = .ok ((s.getD c.1.toNat []).getD c.2.toNat 0) := by
  obtain ⟨i1, i2, i3, i4⟩ := i
  have l1 : c.1.toNat < s.length := by omega
  have e : s[c.1.toNat]? = some (s.getD c.1.toNat []) := by rw [List.getD_eq_getElem?_getD, List.getElem?_eq_getElem l1]; rfl
  have hc := (w.col _ (List.mem_of_getElem? e)).1
  have g1 : ixO s c.1 = .ok (s.getD c.1.toNat []) := ixO_get i1 e
  have g2 : ixO (s.getD c.1.toNat []) c.2 = .ok ((s.getD c.1.toNat []).getD c.2.toNat 0) := ixO_get i3 (by rw [List.getD_eq_getElem?_getD (l := s.getD c.1.toNat []), List.getElem?_eq_getElem (by omega)]; rfl)
  refine ⟨_, g1, g2, ?_⟩
  unfold y_depth_at
  simp -implicitDefEqProofs only [DL.bnd_ok, DL.bnd_eta, DL.bnd_bad, DL.bnd_ex, DL.bnd_ite, DL.seqF_nx, DL.seqF_rt, DL.seqF_ite, DL.loopF_nx, DL.loopF_rt, DL.loopF_ite, DL.finR_rt, DL.finRM_rt, DL.finN_rt, DL.finN_nx, DL.finNM_rt, DL.finNM_nx, DL.finR_ite, DL.lt_eq, ite_true, ite_false, Bool.not_true, Bool.not_false, Bool.true_and, Bool.and_true, Bool.false_and, Bool.and_false, Bool.true_or, Bool.or_true, Bool.false_or, Bool.or_false, Bool.false_eq_true, decide_true, decide_false, beq_self_eq_true, beq_iff_eq, decide_eq_true_eq, reduceIte, if_true, if_false, g1, g2]
theorem beside_ok {s : List (List Int)} {h : Nat} (w : Sea2 s h) (c : Cell) : y_waters_beside s c = .ok ((nb c).filter (wat s h)) := by
  have k := compO_ok (p := fun x => (bnd (y_is_cell s x) fun a_7 => if a_7 then (bnd (y_depth_at s x) fun a_8 => .ok (decide ((0 : Int) < a_8))) else .ok false)) (f := fun x : Cell => O.ok x) (wat s h) id (xs := nb c) (by unfold nb; simp) (fun x _ => by
    rw [is_cell_eq w, bnd_ok]
    by_cases i : 0 ≤ x.1 ∧ x.1 < s.length ∧ 0 ≤ x.2 ∧ x.2 < h
    · obtain ⟨_, _, _, d⟩ := depth_ok w (c := x) i
      rw [decide_eq_true i, if_pos rfl, d]
      show O.ok _ = O.ok _
      congr 1
      unfold wat
      by_cases z : 0 < (s.getD x.1.toNat []).getD x.2.toNat 0
      · rw [decide_eq_true z, decide_eq_true ⟨i.1, i.2.1, i.2.2.1, i.2.2.2, z⟩]
      · rw [decide_eq_false z, decide_eq_false fun q => z q.2.2.2.2]
    · rw [decide_eq_false i, if_neg Bool.false_ne_true]
      unfold wat
      rw [decide_eq_false fun q => i ⟨q.1, q.2.1, q.2.2.1, q.2.2.2.1⟩]) (fun x _ _ => rfl)
  rw [List.map_id] at k
  unfold y_waters_beside
  simp -implicitDefEqProofs only [DL.bnd_ok, DL.bnd_eta, DL.bnd_bad, DL.bnd_ex, DL.bnd_ite, DL.seqF_nx, DL.seqF_rt, DL.seqF_ite, DL.loopF_nx, DL.loopF_rt, DL.loopF_ite, DL.finR_rt, DL.finRM_rt, DL.finN_rt, DL.finN_nx, DL.finNM_rt, DL.finNM_nx, DL.finR_ite, DL.lt_eq, ite_true, ite_false, Bool.not_true, Bool.not_false, Bool.true_and, Bool.and_true, Bool.false_and, Bool.and_false, Bool.true_or, Bool.or_true, Bool.false_or, Bool.or_false, Bool.false_eq_true, decide_true, decide_false, beq_self_eq_true, beq_iff_eq, decide_eq_true_eq, reduceIte, if_true, if_false]
  unfold nb at k
  simp -implicitDefEqProofs only [DL.bnd_ok, DL.bnd_eta, DL.bnd_bad, DL.bnd_ex, DL.bnd_ite, DL.seqF_nx, DL.seqF_rt, DL.seqF_ite, DL.loopF_nx, DL.loopF_rt, DL.loopF_ite, DL.finR_rt, DL.finRM_rt, DL.finN_rt, DL.finN_nx, DL.finNM_rt, DL.finNM_nx, DL.finR_ite, DL.lt_eq, ite_true, ite_false, Bool.not_true, Bool.not_false, Bool.true_and, Bool.and_true, Bool.false_and, Bool.and_false, Bool.true_or, Bool.or_true, Bool.false_or, Bool.or_false, Bool.false_eq_true, decide_true, decide_false, beq_self_eq_true, beq_iff_eq, decide_eq_true_eq, reduceIte, if_true, if_false, k]
  rfl
/-- a dict of cells -/
structure Cd (s : List (List Int)) (h : Nat) (m : List (Cell × Bool)) : Prop where
  nd : (keys m).Nodup
  inb : ∀ x ∈ keys m, Inb s h x
theorem Cd.len {s : List (List Int)} {h : Nat} (w : Sea2 s h) {m : List (Cell × Bool)} (d : Cd s h m) : m.length ≤ 144 := by
  have := inb_len w.n16 w.h9 d.nd d.inb
  rwa [keys_len] at this
theorem Cd.put {s : List (List Int)} {h : Nat} {m : List (Cell × Bool)} (d : Cd s h m) {x : Cell} (hx : Inb s h x) (v : Bool) : Cd s h (putG m x v) :=
  ⟨put_nodup d.nd, fun y hy => (put_mem.mp hy).elim (d.inb y) fun e => by rw [e]; exact hx⟩
theorem Cd.putO {s : List (List Int)} {h : Nat} (w : Sea2 s h) {m : List (Cell × Bool)} (d : Cd s h m) (x : Cell) (v : Bool) : DL.putO m x v = .ok (putG m x v) := by
  unfold DL.putO
  rw [if_pos (szL _ (by have := d.len w; omega))]
theorem d1_ok {s : List (List Int)} {h : Nat} (w : Sea2 s h) (st : List (Cell × Bool) × List Cell × Int) {κ : Type} : ∀ (xs : List Cell) (m : List (Cell × Bool)), (∀ x ∈ xs, Inb s h x) → Cd s h m → ∃ m', forF (κ := κ) (yl_drifted_1 st) xs m = .ok (.nx m') ∧ Cd s h m' ∧ ∀ x, x ∈ keys m' ↔ x ∈ keys m ∨ (x ∈ xs ∧ x ∉ keys st.1)
  | [], m, _, d => ⟨m, rfl, d, fun x => ⟨.inl, fun h => h.elim id fun e => by cases e.1⟩⟩
  | y :: xs, m, hi, d => by
    have yi := hi y List.mem_cons_self
    have hi' := fun x hx => hi x (List.mem_cons_of_mem _ hx)
    by_cases c : y ∈ keys st.1
    · obtain ⟨m', k1, k2, k3⟩ := d1_ok w st (κ := κ) xs m hi' d
      have b : yl_drifted_1 st y m = .ok (.nx m) := by
        unfold yl_drifted_1
        have lk : (lookG y st.1).isSome = true := look_yes c
        simp -implicitDefEqProofs only [DL.bnd_ok, DL.bnd_eta, DL.bnd_bad, DL.bnd_ex, DL.bnd_ite, DL.seqF_nx, DL.seqF_rt, DL.seqF_ite, DL.loopF_nx, DL.loopF_rt, DL.loopF_ite, DL.finR_rt, DL.finRM_rt, DL.finN_rt, DL.finN_nx, DL.finNM_rt, DL.finNM_nx, DL.finR_ite, DL.lt_eq, ite_true, ite_false, Bool.not_true, Bool.not_false, Bool.true_and, Bool.and_true, Bool.false_and, Bool.and_false, Bool.true_or, Bool.or_true, Bool.false_or, Bool.or_false, Bool.false_eq_true, decide_true, decide_false, beq_self_eq_true, beq_iff_eq, decide_eq_true_eq, reduceIte, if_true, if_false, lk]
      refine ⟨m', by rw [forF_cons, b, loopF_nx, k1], k2, fun x => ?_⟩
      rw [k3, List.mem_cons]
      constructor
      · rintro (q | ⟨q, z⟩)
        · exact .inl q
        · exact .inr ⟨.inr q, z⟩
      · rintro (q | ⟨rfl | q, z⟩)
        · exact .inl q
        · exact absurd c z
        · exact .inr ⟨q, z⟩
    · obtain ⟨m', k1, k2, k3⟩ := d1_ok w st (κ := κ) xs (putG m y true) hi' (d.put yi true)
      have pu := d.putO w y true
      have b : yl_drifted_1 st y m = .ok (.nx (putG m y true)) := by
        unfold yl_drifted_1
        have lk : (lookG y st.1).isSome = false := look_no c
        simp -implicitDefEqProofs only [DL.bnd_ok, DL.bnd_eta, DL.bnd_bad, DL.bnd_ex, DL.bnd_ite, DL.seqF_nx, DL.seqF_rt, DL.seqF_ite, DL.loopF_nx, DL.loopF_rt, DL.loopF_ite, DL.finR_rt, DL.finRM_rt, DL.finN_rt, DL.finN_nx, DL.finNM_rt, DL.finNM_nx, DL.finR_ite, DL.lt_eq, ite_true, ite_false, Bool.not_true, Bool.not_false, Bool.true_and, Bool.and_true, Bool.false_and, Bool.and_false, Bool.true_or, Bool.or_true, Bool.false_or, Bool.or_false, Bool.false_eq_true, decide_true, decide_false, beq_self_eq_true, beq_iff_eq, decide_eq_true_eq, reduceIte, if_true, if_false, lk, pu]
      refine ⟨m', by rw [forF_cons, b, loopF_nx, k1], k2, fun x => ?_⟩
      rw [k3, put_mem, List.mem_cons]
      constructor
      · rintro ((q | rfl) | ⟨q, z⟩)
        · exact .inl q
        · exact .inr ⟨.inl rfl, c⟩
        · exact .inr ⟨.inr q, z⟩
      · rintro (q | ⟨rfl | q, z⟩)
        · exact .inl (.inl q)
        · exact .inl (.inr rfl)
        · exact .inr ⟨q, z⟩
theorem d2_ok {s : List (List Int)} {h : Nat} (w : Sea2 s h) (st : List (Cell × Bool) × List Cell × Int) {κ : Type} : ∀ (ys : List Cell) (m : List (Cell × Bool)), Cd s h m → ∃ m', forF (κ := κ) (yl_drifted_2 s st) ys m = .ok (.nx m') ∧ Cd s h m' ∧ ∀ x, x ∈ keys m' ↔ x ∈ keys m ∨ (wat s h x = true ∧ (∃ y ∈ ys, x ∈ nb y) ∧ x ∉ keys st.1)
  | [], m, d => ⟨m, rfl, d, fun x => ⟨.inl, fun h => h.elim id fun ⟨_, ⟨_, e, _⟩, _⟩ => by cases e⟩⟩
  | y :: ys, m, d => by
    obtain ⟨m1, j1, j2, j3⟩ := d1_ok w st (κ := List (Cell × Bool)) ((nb y).filter (wat s h)) m (fun x hx => wat_inb (List.mem_filter.mp hx).2) d
    obtain ⟨m', k1, k2, k3⟩ := d2_ok w st (κ := κ) ys m1 j2
    have b : yl_drifted_2 s st y m = .ok (.nx m1) := by
      unfold yl_drifted_2
      simp -implicitDefEqProofs only [DL.bnd_ok, DL.bnd_eta, DL.bnd_bad, DL.bnd_ex, DL.bnd_ite, DL.seqF_nx, DL.seqF_rt, DL.seqF_ite, DL.loopF_nx, DL.loopF_rt, DL.loopF_ite, DL.finR_rt, DL.finRM_rt, DL.finN_rt, DL.finN_nx, DL.finNM_rt, DL.finNM_nx, DL.finR_ite, DL.lt_eq, ite_true, ite_false, Bool.not_true, Bool.not_false, Bool.true_and, Bool.and_true, Bool.false_and, Bool.and_false, Bool.true_or, Bool.or_true, Bool.false_or, Bool.or_false, Bool.false_eq_true, decide_true, decide_false, beq_self_eq_true, beq_iff_eq, decide_eq_true_eq, reduceIte, if_true, if_false, beside_ok w, j1]
    refine ⟨m', by rw [forF_cons, b, loopF_nx, k1], k2, fun x => ?_⟩
    rw [k3, j3, List.mem_filter]
    constructor
    · rintro ((q | ⟨⟨q, v⟩, z⟩) | ⟨v, ⟨y', q, r⟩, z⟩)
      · exact .inl q
      · exact .inr ⟨v, ⟨y, List.mem_cons_self, q⟩, z⟩
      · exact .inr ⟨v, ⟨y', List.mem_cons_of_mem _ q, r⟩, z⟩
    · rintro (q | ⟨v, ⟨y', q, r⟩, z⟩)
      · exact .inl (.inl q)
      · rcases List.mem_cons.mp q with rfl | q
        · exact .inl (.inr ⟨⟨r, v⟩, z⟩)
        · exact .inr ⟨v, ⟨y', q, r⟩, z⟩
/-- one ring more -/
theorem d3_ok {s : List (List Int)} {h : Nat} (w : Sea2 s h) (f : List (Cell × Bool)) (ring : List Cell) (left : Int) (d : Cd s h f) (ne : f ≠ []) : ∃ (f' fr : List (Cell × Bool)), yl_drifted_3 s (f, ring, left) = .ok (.nx (f', keys fr, left - 1)) ∧ Cd s h f' ∧ f' ≠ [] ∧ (∀ x, x ∈ keys fr ↔ (wat s h x = true ∧ (∃ y ∈ ring, x ∈ nb y) ∧ x ∉ keys f)) ∧ ∀ x, x ∈ keys f' ↔ x ∈ keys f ∨ x ∈ keys fr := by
  obtain ⟨fr, k1, k2, k3⟩ := d2_ok w (f, ring, left) (κ := List (Cell × Bool) × List Cell × Int) ring [] ⟨List.nodup_nil, fun x hx => by cases hx⟩
  have up : updO f fr = .ok (updG f fr) := by
    unfold updO
    rw [if_pos ⟨szB _ (by have := d.len w; have := k2.len w; omega), ne⟩]
  have k3 : ∀ x, x ∈ keys fr ↔ (wat s h x = true ∧ (∃ y ∈ ring, x ∈ nb y) ∧ x ∉ keys f) := fun x => by
    rw [k3 x]; exact ⟨fun h => h.elim (fun e => by cases e) id, .inr⟩
  refine ⟨updG f fr, fr, ?_, ⟨upd_nodup d.nd, fun x hx => (upd_mem.mp hx).elim (d.inb x) (k2.inb x)⟩, ?_, k3, fun x => upd_mem⟩
  · unfold yl_drifted_3
    simp -implicitDefEqProofs only [DL.bnd_ok, DL.bnd_eta, DL.bnd_bad, DL.bnd_ex, DL.bnd_ite, DL.seqF_nx, DL.seqF_rt, DL.seqF_ite, DL.loopF_nx, DL.loopF_rt, DL.loopF_ite, DL.finR_rt, DL.finRM_rt, DL.finN_rt, DL.finN_nx, DL.finNM_rt, DL.finNM_nx, DL.finR_ite, DL.lt_eq, ite_true, ite_false, Bool.not_true, Bool.not_false, Bool.true_and, Bool.and_true, Bool.false_and, Bool.and_false, Bool.true_or, Bool.or_true, Bool.false_or, Bool.or_false, Bool.false_eq_true, decide_true, decide_false, beq_self_eq_true, beq_iff_eq, decide_eq_true_eq, reduceIte, if_true, if_false, DL.lt_eq, k1, up]
    rfl
  · intro e
    cases hf : f with
    | nil => exact ne hf
    | cons p q =>
      have : p.1 ∈ keys (updG f fr) := upd_mem.mpr (.inl (by rw [hf]; exact List.mem_cons_self))
      rw [e] at this; cases this

end LW

end
section
set_option maxRecDepth 100000
set_option maxHeartbeats 2000000
namespace LW
open PySem PySem.Spec PyProof.Rows L2 DL
def pyC (c : Cell) : PyData := .tuple [.int c.1, .int c.2]
theorem py_cells (xs : List Cell) : (eL (eP2 D.int D.int) xs).py = .list (xs.map pyC) := by
  show PyData.list (pys (xs.map (eP2 D.int D.int))) = _
  rw [pys_map, List.map_map]; rfl
theorem shp_cells (xs : List Cell) : shp (eL (eP2 D.int D.int) xs) = true := by
  unfold shp SeqAt.shaped
  rw [py_cells]
  have k : ∀ xs : List Cell, PyData.canLayAll0 (xs.map pyC) = true := fun xs => by
    induction xs with
    | nil => rfl
    | cons a c ih => rw [List.map_cons, PyData.canLayAll0, ih]; rfl
  have d : ∀ xs : List Cell, PyData.depthAll (xs.map pyC) = if xs = [] then 0 else 1 := fun xs => by
    induction xs with
    | nil => rfl
    | cons a c ih =>
      show max 1 (PyData.depthAll (c.map pyC)) = 1
      rw [ih]
      split <;> rfl
  rw [PyData.canLay0, k xs, PyData.depth, d xs]
  split <;> rfl
theorem eqv_cells (a b : List Cell) : PyData.eqvAll (a.map pyC) (b.map pyC) = (a == b) := by
  induction a generalizing b with
  | nil => cases b <;> rfl
  | cons x xs ih =>
    cases b with
    | nil => rfl
    | cons y ys =>
      show (((x.1 == y.1) && ((x.2 == y.2) && true)) && PyData.eqvAll (xs.map pyC) (ys.map pyC)) = (((x.1 == y.1) && (x.2 == y.2)) && (xs == ys))
      rw [ih, Bool.and_true]
theorem ne_ring (xs : List Cell) : neO (eL (eP2 D.int D.int) xs) (eL D.int []) = .ok (!xs.isEmpty) := by
  unfold neO
  rw [shp_cells, show shp (eL D.int []) = true from shp_cells [], py_cells]
  show O.ok (!PyData.eqvAll (xs.map pyC) []) = _
  cases xs <;> rfl
theorem ne_cells (a b : List Cell) : neO (eL (eP2 D.int D.int) a) (eO (eL (eP2 D.int D.int)) (some b)) = .ok (!(a == b)) := by
  show neO (eL (eP2 D.int D.int) a) (eL (eP2 D.int D.int) b) = _
  unfold neO
  rw [shp_cells, shp_cells, py_cells, py_cells]
  show O.ok (!PyData.eqvAll (a.map pyC) (b.map pyC)) = _
  rw [eqv_cells]
theorem ne_none (a : List Cell) : neO (eL (eP2 D.int D.int) a) (eO (eL (eP2 D.int D.int)) none) = .ok true := by
  show neO (eL (eP2 D.int D.int) a) .non = _
  unfold neO
  rw [shp_cells, py_cells]
  rfl
theorem dr_loop {s : List (List Int)} {h : Nat} (w : Sea2 s h) (c0 : Cell) : ∀ (n k fuel : Nat) (f : List (Cell × Bool)) (ring : List Cell), n < fuel → Cd s h f → f ≠ [] → (∀ x, x ∈ keys f ↔ Rch s h c0 k x) → (∀ y ∈ ring, Rch s h c0 k y) → (∀ y, Rch s h c0 k y → y ∉ ring → ∀ x ∈ nb y, wat s h x = true → Rch s h c0 k x) →
    ∃ st, whF (κ := Unit) yw_drifted_3 (yl_drifted_3 s) fuel (f, ring, (n : Int)) = .ok (.nx st) ∧ Cd s h st.1 ∧ ∀ x, x ∈ keys st.1 ↔ Rch s h c0 (k + n) x
  | n, k, 0, f, ring, hf, _, _, _, _, _ => by omega
  | 0, k, fuel + 1, f, ring, _, d, ne, hm, _, _ => by
    have c : yw_drifted_3 (f, ring, ((0 : Nat) : Int)) = .ok false := by
      unfold yw_drifted_3
      cases ring <;> simp -implicitDefEqProofs only [DL.bnd_ok, DL.bnd_eta, DL.bnd_bad, DL.bnd_ex, DL.bnd_ite, DL.seqF_nx, DL.seqF_rt, DL.seqF_ite, DL.loopF_nx, DL.loopF_rt, DL.loopF_ite, DL.finR_rt, DL.finRM_rt, DL.finN_rt, DL.finN_nx, DL.finNM_rt, DL.finNM_nx, DL.finR_ite, DL.lt_eq, ite_true, ite_false, Bool.not_true, Bool.not_false, Bool.true_and, Bool.and_true, Bool.false_and, Bool.and_false, Bool.true_or, Bool.or_true, Bool.false_or, Bool.or_false, Bool.false_eq_true, decide_true, decide_false, beq_self_eq_true, beq_iff_eq, decide_eq_true_eq, reduceIte, if_true, if_false, ne_ring, List.isEmpty_nil, List.isEmpty_cons] <;> rfl
    exact ⟨_, by rw [whF_succ, c]; rfl, d, hm⟩
  | n + 1, k, fuel + 1, f, ring, hf, d, ne, hm, hr, hc => by
    by_cases e : ring = []
    · subst e
      have c : yw_drifted_3 (f, [], ((n + 1 : Nat) : Int)) = .ok false := by
        unfold yw_drifted_3
        simp -implicitDefEqProofs only [DL.bnd_ok, DL.bnd_eta, DL.bnd_bad, DL.bnd_ex, DL.bnd_ite, DL.seqF_nx, DL.seqF_rt, DL.seqF_ite, DL.loopF_nx, DL.loopF_rt, DL.loopF_ite, DL.finR_rt, DL.finRM_rt, DL.finN_rt, DL.finN_nx, DL.finNM_rt, DL.finNM_nx, DL.finR_ite, DL.lt_eq, ite_true, ite_false, Bool.not_true, Bool.not_false, Bool.true_and, Bool.and_true, Bool.false_and, Bool.and_false, Bool.true_or, Bool.or_true, Bool.false_or, Bool.or_false, Bool.false_eq_true, decide_true, decide_false, beq_self_eq_true, beq_iff_eq, decide_eq_true_eq, reduceIte, if_true, if_false, ne_ring, List.isEmpty_nil]
      refine ⟨_, by rw [whF_succ, c]; rfl, d, fun x => ?_⟩
      rw [Rch.stop (k := k) (fun x hx => hx.elim id fun ⟨v, y, r, m⟩ => hc y r (by simp) x m v) (n + 1) x]
      exact hm x
    · have z : (0 : Int) < ((n + 1 : Nat) : Int) := by omega
      have c : yw_drifted_3 (f, ring, ((n + 1 : Nat) : Int)) = .ok true := by
        unfold yw_drifted_3
        have q : ring.isEmpty = false := by cases ring with | nil => exact absurd rfl e | cons => rfl
        simp -implicitDefEqProofs only [DL.bnd_ok, DL.bnd_eta, DL.bnd_bad, DL.bnd_ex, DL.bnd_ite, DL.seqF_nx, DL.seqF_rt, DL.seqF_ite, DL.loopF_nx, DL.loopF_rt, DL.loopF_ite, DL.finR_rt, DL.finRM_rt, DL.finN_rt, DL.finN_nx, DL.finNM_rt, DL.finNM_nx, DL.finR_ite, DL.lt_eq, ite_true, ite_false, Bool.not_true, Bool.not_false, Bool.true_and, Bool.and_true, Bool.false_and, Bool.and_false, Bool.true_or, Bool.or_true, Bool.false_or, Bool.or_false, Bool.false_eq_true, decide_true, decide_false, beq_self_eq_true, beq_iff_eq, decide_eq_true_eq, reduceIte, if_true, if_false, ne_ring, q, z]
      obtain ⟨f', fr, b1, b2, b3, b4, b5⟩ := d3_ok w f ring ((n + 1 : Nat) : Int) d ne
      rw [show ((n + 1 : Nat) : Int) - 1 = (n : Int) by omega] at b1
      have hm' : ∀ x, x ∈ keys f' ↔ Rch s h c0 (k + 1) x := fun x => by
        rw [b5, b4, hm]
        constructor
        · rintro (q | ⟨v, ⟨y, r, m⟩, _⟩)
          · exact .inl q
          · exact .inr ⟨v, y, hr y r, m⟩
        · rintro (q | ⟨v, y, r, m⟩)
          · exact .inl q
          · by_cases g : Rch s h c0 k x
            · exact .inl g
            · by_cases p : y ∈ ring
              · exact .inr ⟨v, ⟨y, p, m⟩, g⟩
              · exact absurd (hc y r p x m v) g
      obtain ⟨st, k1, k2, k3⟩ := dr_loop w c0 n (k + 1) fuel f' (keys fr) (by omega) b2 b3 hm' (fun y hy => (hm' y).mp ((b5 y).mpr (.inr hy))) (fun y r p x m v => .inr ⟨v, y, (by
        rcases (b5 y).mp ((hm' y).mpr r) with q | q
        · exact (hm y).mp q
        · exact absurd q p), m⟩)
      refine ⟨st, by rw [whF_succ, c, bnd_ok, if_pos rfl, b1, loopF_nx]; exact k1, k2, fun x => ?_⟩
      rw [k3, show k + 1 + n = k + (n + 1) by omega]
/-- where one comes, as a list -/
def Told (s : List (List Int)) (h : Nat) (c0 : Cell) (n : Nat) (L : List Cell) : Prop := L.Pairwise ltC ∧ ∀ x, x ∈ L ↔ Rch s h c0 n x
theorem drifted_ok {s : List (List Int)} {h : Nat} (w : Sea2 s h) {c0 : Cell} (hi : Inb s h c0) (n : Nat) (hn : n ≤ 400) : ∃ L, y_drifted s c0 n = .ok L ∧ L.length ≤ 144 ∧ (∀ x ∈ L, Inb s h x) ∧ if (s.getD c0.1.toNat []).getD c0.2.toNat 0 = 0 then L = [c0] else Told s h c0 n L := by
  obtain ⟨col, g1, g2, g3⟩ := depth_ok w hi
  by_cases z : (s.getD c0.1.toNat []).getD c0.2.toNat 0 = 0
  · refine ⟨[c0], ?_, by simp, fun x hx => by rw [List.mem_singleton.mp hx]; exact hi, by rw [if_pos z]⟩
    unfold y_drifted
    simp -implicitDefEqProofs only [DL.bnd_ok, DL.bnd_eta, DL.bnd_bad, DL.bnd_ex, DL.bnd_ite, DL.seqF_nx, DL.seqF_rt, DL.seqF_ite, DL.loopF_nx, DL.loopF_rt, DL.loopF_ite, DL.finR_rt, DL.finRM_rt, DL.finN_rt, DL.finN_nx, DL.finNM_rt, DL.finNM_nx, DL.finR_ite, DL.lt_eq, ite_true, ite_false, Bool.not_true, Bool.not_false, Bool.true_and, Bool.and_true, Bool.false_and, Bool.and_false, Bool.true_or, Bool.or_true, Bool.false_or, Bool.or_false, Bool.false_eq_true, decide_true, decide_false, beq_self_eq_true, beq_iff_eq, decide_eq_true_eq, reduceIte, if_true, if_false, DL.lt_eq, g3, z]
  · obtain ⟨st, k1, k2, k3⟩ := dr_loop w c0 n 0 wF [(c0, true)] [c0] (by unfold wF; omega) ⟨by simp [keys], fun x hx => by rw [List.mem_singleton.mp hx]; exact hi⟩ (by simp) (fun x => by show x ∈ [c0] ↔ x = c0; exact List.mem_singleton) (fun y hy => List.mem_singleton.mp hy) (fun y r p => absurd (List.mem_singleton.mpr (show y = c0 from r)) p)
    rw [Nat.zero_add] at k3
    refine ⟨srtC (keys st.1), ?_, ?_, fun x hx => k2.inb x ((srtC_mem _ _).mp hx), ?_⟩
    · unfold y_drifted
      simp -implicitDefEqProofs only [DL.bnd_ok, DL.bnd_eta, DL.bnd_bad, DL.bnd_ex, DL.bnd_ite, DL.seqF_nx, DL.seqF_rt, DL.seqF_ite, DL.loopF_nx, DL.loopF_rt, DL.loopF_ite, DL.finR_rt, DL.finRM_rt, DL.finN_rt, DL.finN_nx, DL.finNM_rt, DL.finNM_nx, DL.finR_ite, DL.lt_eq, ite_true, ite_false, Bool.not_true, Bool.not_false, Bool.true_and, Bool.and_true, Bool.false_and, Bool.and_false, Bool.true_or, Bool.or_true, Bool.false_or, Bool.or_false, Bool.false_eq_true, decide_true, decide_false, beq_self_eq_true, beq_iff_eq, decide_eq_true_eq, reduceIte, if_true, if_false, DL.lt_eq, g3, z, k1]
      rfl
    · have := k2.len w
      show (srtC (keys st.1)).length ≤ 144
      unfold srtC
      rw [List.length_mergeSort, keys_len]; exact this
    · rw [if_neg z]
      exact ⟨srtC_srt k2.nd, fun x => by rw [srtC_mem, k3]⟩
theorem drift_ok {s : List (List Int)} {h : Nat} (w : Sea2 s h) {c0 : Cell} (hi : Inb s h c0) (n : Nat) (hn : n ≤ 400) {L : List Cell} (e : y_drifted s c0 n = .ok L) : y_drift s c0 n = .ok L := by
  have cl : y_is_cell s c0 = .ok true := by rw [is_cell_eq w]; exact congrArg O.ok (decide_eq_true hi)
  have nc : y_need_cell s c0 = .ok () := by
    unfold y_need_cell
    simp -implicitDefEqProofs only [DL.bnd_ok, DL.bnd_eta, DL.bnd_bad, DL.bnd_ex, DL.bnd_ite, DL.seqF_nx, DL.seqF_rt, DL.seqF_ite, DL.loopF_nx, DL.loopF_rt, DL.loopF_ite, DL.finR_rt, DL.finRM_rt, DL.finN_rt, DL.finN_nx, DL.finNM_rt, DL.finNM_nx, DL.finR_ite, DL.lt_eq, ite_true, ite_false, Bool.not_true, Bool.not_false, Bool.true_and, Bool.and_true, Bool.false_and, Bool.and_false, Bool.true_or, Bool.or_true, Bool.false_or, Bool.or_false, Bool.false_eq_true, decide_true, decide_false, beq_self_eq_true, beq_iff_eq, decide_eq_true_eq, reduceIte, if_true, if_false, cl]
  have nd : y_need_day n = .ok () := by
    have := is_whole_ok (a := (n : Int)) (l := 0) (h := 400) (by omega) (by omega)
    unfold y_need_day
    simp -implicitDefEqProofs only [DL.bnd_ok, DL.bnd_eta, DL.bnd_bad, DL.bnd_ex, DL.bnd_ite, DL.seqF_nx, DL.seqF_rt, DL.seqF_ite, DL.loopF_nx, DL.loopF_rt, DL.loopF_ite, DL.finR_rt, DL.finRM_rt, DL.finN_rt, DL.finN_nx, DL.finNM_rt, DL.finNM_nx, DL.finR_ite, DL.lt_eq, ite_true, ite_false, Bool.not_true, Bool.not_false, Bool.true_and, Bool.and_true, Bool.false_and, Bool.and_false, Bool.true_or, Bool.or_true, Bool.false_or, Bool.or_false, Bool.false_eq_true, decide_true, decide_false, beq_self_eq_true, beq_iff_eq, decide_eq_true_eq, reduceIte, if_true, if_false, this]
  unfold y_drift
  simp -implicitDefEqProofs only [DL.bnd_ok, DL.bnd_eta, DL.bnd_bad, DL.bnd_ex, DL.bnd_ite, DL.seqF_nx, DL.seqF_rt, DL.seqF_ite, DL.loopF_nx, DL.loopF_rt, DL.loopF_ite, DL.finR_rt, DL.finRM_rt, DL.finN_rt, DL.finN_nx, DL.finNM_rt, DL.finNM_nx, DL.finR_ite, DL.lt_eq, ite_true, ite_false, Bool.not_true, Bool.not_false, Bool.true_and, Bool.and_true, Bool.false_and, Bool.and_false, Bool.true_or, Bool.or_true, Bool.false_or, Bool.or_false, Bool.false_eq_true, decide_true, decide_false, beq_self_eq_true, beq_iff_eq, decide_eq_true_eq, reduceIte, if_true, if_false, need_sea_ok w, nc, nd, e]

end LW

end
section
set_option maxRecDepth 100000
set_option maxHeartbeats 2000000
namespace LW
open PySem PySem.Spec PyProof.Rows L2 DL
theorem lr1_ok {s : List (List Int)} {h : Nat} (w : Sea2 s h) (x : Cell) (m : List (Cell × Bool)) (d : Cd s h m) : yl__law_round_1 s x m = .ok (.nx (if wat s h x = true then putG m x true else m)) := by
  obtain ⟨c0, g, e⟩ := w.rows
  by_cases i : Inb s h x
  · obtain ⟨col, g1, g2, _⟩ := depth_ok w i
    have pu := d.putO w x true
    obtain ⟨i1, i2, i3, i4⟩ := i
    by_cases z : 0 < (s.getD x.1.toNat []).getD x.2.toNat 0
    · have wt : wat s h x = true := decide_eq_true ⟨i1, i2, i3, i4, z⟩
      rw [if_pos wt]
      unfold yl__law_round_1
      simp -implicitDefEqProofs only [DL.bnd_ok, DL.bnd_eta, DL.bnd_bad, DL.bnd_ex, DL.bnd_ite, DL.seqF_nx, DL.seqF_rt, DL.seqF_ite, DL.loopF_nx, DL.loopF_rt, DL.loopF_ite, DL.finR_rt, DL.finRM_rt, DL.finN_rt, DL.finN_nx, DL.finNM_rt, DL.finNM_nx, DL.finR_ite, DL.lt_eq, ite_true, ite_false, Bool.not_true, Bool.not_false, Bool.true_and, Bool.and_true, Bool.false_and, Bool.and_false, Bool.true_or, Bool.or_true, Bool.false_or, Bool.or_false, Bool.false_eq_true, decide_true, decide_false, beq_self_eq_true, beq_iff_eq, decide_eq_true_eq, reduceIte, if_true, if_false, i1, i2, i3, g, e, i4, g1, g2, z, pu]
    · have wt : ¬ wat s h x = true := fun q => z (of_decide_eq_true q).2.2.2.2
      rw [if_neg wt]
      unfold yl__law_round_1
      simp -implicitDefEqProofs only [DL.bnd_ok, DL.bnd_eta, DL.bnd_bad, DL.bnd_ex, DL.bnd_ite, DL.seqF_nx, DL.seqF_rt, DL.seqF_ite, DL.loopF_nx, DL.loopF_rt, DL.loopF_ite, DL.finR_rt, DL.finRM_rt, DL.finN_rt, DL.finN_nx, DL.finNM_rt, DL.finNM_nx, DL.finR_ite, DL.lt_eq, ite_true, ite_false, Bool.not_true, Bool.not_false, Bool.true_and, Bool.and_true, Bool.false_and, Bool.and_false, Bool.true_or, Bool.or_true, Bool.false_or, Bool.or_false, Bool.false_eq_true, decide_true, decide_false, beq_self_eq_true, beq_iff_eq, decide_eq_true_eq, reduceIte, if_true, if_false, i1, i2, i3, g, e, i4, g1, g2, z]
  · have wt : ¬ wat s h x = true := fun q => i (wat_inb q)
    rw [if_neg wt]
    unfold yl__law_round_1
    by_cases a : 0 ≤ x.1 ∧ x.1 < s.length
    · by_cases b : 0 ≤ x.2
      · have c : ¬ x.2 < (h : Int) := fun q => i ⟨a.1, a.2, b, q⟩
        simp -implicitDefEqProofs only [DL.bnd_ok, DL.bnd_eta, DL.bnd_bad, DL.bnd_ex, DL.bnd_ite, DL.seqF_nx, DL.seqF_rt, DL.seqF_ite, DL.loopF_nx, DL.loopF_rt, DL.loopF_ite, DL.finR_rt, DL.finRM_rt, DL.finN_rt, DL.finN_nx, DL.finNM_rt, DL.finNM_nx, DL.finR_ite, DL.lt_eq, ite_true, ite_false, Bool.not_true, Bool.not_false, Bool.true_and, Bool.and_true, Bool.false_and, Bool.and_false, Bool.true_or, Bool.or_true, Bool.false_or, Bool.or_false, Bool.false_eq_true, decide_true, decide_false, beq_self_eq_true, beq_iff_eq, decide_eq_true_eq, reduceIte, if_true, if_false, a.1, a.2, b, g, e, c]
      · simp -implicitDefEqProofs only [DL.bnd_ok, DL.bnd_eta, DL.bnd_bad, DL.bnd_ex, DL.bnd_ite, DL.seqF_nx, DL.seqF_rt, DL.seqF_ite, DL.loopF_nx, DL.loopF_rt, DL.loopF_ite, DL.finR_rt, DL.finRM_rt, DL.finN_rt, DL.finN_nx, DL.finNM_rt, DL.finNM_nx, DL.finR_ite, DL.lt_eq, ite_true, ite_false, Bool.not_true, Bool.not_false, Bool.true_and, Bool.and_true, Bool.false_and, Bool.and_false, Bool.true_or, Bool.or_true, Bool.false_or, Bool.or_false, Bool.false_eq_true, decide_true, decide_false, beq_self_eq_true, beq_iff_eq, decide_eq_true_eq, reduceIte, if_true, if_false, a.1, a.2, b]
    · have a' : (decide (0 ≤ x.1) && decide (x.1 < (s.length : Int))) = false := by
        cases e : (decide (0 ≤ x.1) && decide (x.1 < (s.length : Int))) with
        | false => rfl
        | true => exact absurd (by simpa using e) a
      simp -implicitDefEqProofs only [DL.bnd_ok, DL.bnd_eta, DL.bnd_bad, DL.bnd_ex, DL.bnd_ite, DL.seqF_nx, DL.seqF_rt, DL.seqF_ite, DL.loopF_nx, DL.loopF_rt, DL.loopF_ite, DL.finR_rt, DL.finRM_rt, DL.finN_rt, DL.finN_nx, DL.finNM_rt, DL.finNM_nx, DL.finR_ite, DL.lt_eq, ite_true, ite_false, Bool.not_true, Bool.not_false, Bool.true_and, Bool.and_true, Bool.false_and, Bool.and_false, Bool.true_or, Bool.or_true, Bool.false_or, Bool.or_false, Bool.false_eq_true, decide_true, decide_false, beq_self_eq_true, beq_iff_eq, decide_eq_true_eq, reduceIte, if_true, if_false, a']
theorem lr1_loop {s : List (List Int)} {h : Nat} (w : Sea2 s h) {κ : Type} : ∀ (xs : List Cell) (m : List (Cell × Bool)), Cd s h m → ∃ m', forF (κ := κ) (yl__law_round_1 s) xs m = .ok (.nx m') ∧ Cd s h m' ∧ ∀ x, x ∈ keys m' ↔ x ∈ keys m ∨ (x ∈ xs ∧ wat s h x = true)
  | [], m, d => ⟨m, rfl, d, fun x => ⟨.inl, fun h => h.elim id fun e => by cases e.1⟩⟩
  | y :: xs, m, d => by
    have b := lr1_ok w y m d
    by_cases v : wat s h y = true
    · rw [if_pos v] at b
      obtain ⟨m', k1, k2, k3⟩ := lr1_loop w (κ := κ) xs (putG m y true) (d.put (wat_inb v) true)
      refine ⟨m', by rw [forF_cons, b, loopF_nx, k1], k2, fun x => ?_⟩
      rw [k3, put_mem, List.mem_cons]
      constructor
      · rintro ((q | rfl) | ⟨q, z⟩)
        · exact .inl q
        · exact .inr ⟨.inl rfl, v⟩
        · exact .inr ⟨.inr q, z⟩
      · rintro (q | ⟨rfl | q, z⟩)
        · exact .inl (.inl q)
        · exact .inl (.inr rfl)
        · exact .inr ⟨q, z⟩
    · rw [if_neg v] at b
      obtain ⟨m', k1, k2, k3⟩ := lr1_loop w (κ := κ) xs m d
      refine ⟨m', by rw [forF_cons, b, loopF_nx, k1], k2, fun x => ?_⟩
      rw [k3, List.mem_cons]
      constructor
      · rintro (q | ⟨q, z⟩)
        · exact .inl q
        · exact .inr ⟨.inr q, z⟩
      · rintro (q | ⟨rfl | q, z⟩)
        · exact .inl q
        · exact absurd z v
        · exact .inr ⟨q, z⟩
theorem lr2_loop {s : List (List Int)} {h : Nat} (w : Sea2 s h) {κ : Type} : ∀ (ys : List Cell) (m : List (Cell × Bool)), Cd s h m → ∃ m', forF (κ := κ) (yl__law_round_2 s) ys m = .ok (.nx m') ∧ Cd s h m' ∧ ∀ x, x ∈ keys m' ↔ x ∈ keys m ∨ (wat s h x = true ∧ ∃ y ∈ ys, x ∈ nb y)
  | [], m, d => ⟨m, rfl, d, fun x => ⟨.inl, fun h => h.elim id fun ⟨_, _, e, _⟩ => by cases e⟩⟩
  | y :: ys, m, d => by
    obtain ⟨m1, j1, j2, j3⟩ := lr1_loop w (κ := List (Cell × Bool)) (nbL y) m d
    obtain ⟨m', k1, k2, k3⟩ := lr2_loop w (κ := κ) ys m1 j2
    have b : yl__law_round_2 s y m = .ok (.nx m1) := by
      unfold yl__law_round_2
      unfold nbL at j1
      simp -implicitDefEqProofs only [DL.bnd_ok, DL.bnd_eta, DL.bnd_bad, DL.bnd_ex, DL.bnd_ite, DL.seqF_nx, DL.seqF_rt, DL.seqF_ite, DL.loopF_nx, DL.loopF_rt, DL.loopF_ite, DL.finR_rt, DL.finRM_rt, DL.finN_rt, DL.finN_nx, DL.finNM_rt, DL.finNM_nx, DL.finR_ite, DL.lt_eq, ite_true, ite_false, Bool.not_true, Bool.not_false, Bool.true_and, Bool.and_true, Bool.false_and, Bool.and_false, Bool.true_or, Bool.or_true, Bool.false_or, Bool.or_false, Bool.false_eq_true, decide_true, decide_false, beq_self_eq_true, beq_iff_eq, decide_eq_true_eq, reduceIte, if_true, if_false, j1]
    refine ⟨m', by rw [forF_cons, b, loopF_nx, k1], k2, fun x => ?_⟩
    rw [k3, j3, nbL_mem]
    constructor
    · rintro ((q | ⟨q, v⟩) | ⟨v, y', q, r⟩)
      · exact .inl q
      · exact .inr ⟨v, y, List.mem_cons_self, q⟩
      · exact .inr ⟨v, y', List.mem_cons_of_mem _ q, r⟩
    · rintro (q | ⟨v, y', q, r⟩)
      · exact .inl (.inl q)
      · rcases List.mem_cons.mp q with rfl | q
        · exact .inl (.inr ⟨r, v⟩)
        · exact .inr ⟨v, y', q, r⟩
theorem round_ok {s : List (List Int)} {h : Nat} (w : Sea2 s h) {cs : List Cell} (ne : cs ≠ []) (hn : cs.Nodup) (hi : ∀ x ∈ cs, Inb s h x) : ∃ L, y__law_round s cs = .ok L ∧ L.Pairwise ltC ∧ ∀ x, x ∈ L ↔ x ∈ cs ∨ (wat s h x = true ∧ ∃ y ∈ cs, x ∈ nb y) := by
  have len := inb_len w.n16 w.h9 hn hi
  have l1 : lenO cs (List.map (fun x_4 => (x_4, true)) cs) = .ok _ := lenO_ok (by omega)
  have di : dictO (List.map (fun x_4 => (x_4, true)) cs) = .ok (updG [] (List.map (fun x_4 => (x_4, true)) cs)) := by
    unfold dictO
    rw [if_pos (by simpa using ne)]
  have kk : keys (List.map (fun x_4 : Cell => (x_4, true)) cs) = cs := by
    unfold keys
    rw [List.map_map]
    exact List.map_id' cs
  have d0 : Cd s h (updG [] (List.map (fun x_4 => (x_4, true)) cs)) := ⟨upd_nodup List.nodup_nil, fun x hx => by
    rcases upd_mem.mp hx with q | q
    · cases q
    · rw [kk] at q; exact hi x q⟩
  obtain ⟨m', k1, k2, k3⟩ := lr2_loop w (κ := Unit) cs _ d0
  refine ⟨srtC (keys m'), ?_, srtC_srt k2.nd, fun x => ?_⟩
  · unfold y__law_round
    simp -implicitDefEqProofs only [DL.bnd_ok, DL.bnd_eta, DL.bnd_bad, DL.bnd_ex, DL.bnd_ite, DL.seqF_nx, DL.seqF_rt, DL.seqF_ite, DL.loopF_nx, DL.loopF_rt, DL.loopF_ite, DL.finR_rt, DL.finRM_rt, DL.finN_rt, DL.finN_nx, DL.finNM_rt, DL.finNM_nx, DL.finR_ite, DL.lt_eq, ite_true, ite_false, Bool.not_true, Bool.not_false, Bool.true_and, Bool.and_true, Bool.false_and, Bool.and_false, Bool.true_or, Bool.or_true, Bool.false_or, Bool.or_false, Bool.false_eq_true, decide_true, decide_false, beq_self_eq_true, beq_iff_eq, decide_eq_true_eq, reduceIte, if_true, if_false, l1, di, k1]
    rfl
  · rw [srtC_mem, k3, upd_mem, kk]
    constructor
    · rintro ((q | q) | q)
      · cases q
      · exact .inl q
      · exact .inr q
    · rintro (q | q)
      · exact .inl (.inr q)
      · exact .inr q
theorem ld_loop {s : List (List Int)} {h : Nat} (w : Sea2 s h) {c0 : Cell} (hi : Inb s h c0) : ∀ (xs : List Int) (k : Nat) (f : List Cell) (a : Option (List Cell)), Told s h c0 k f → (∀ p, a = some p → ∃ j, k = j + 1 ∧ Told s h c0 j p) → ∃ st, forF (κ := Unit) (yl__law_drift_1 s) xs (f, a) = .ok (.nx st) ∧ Told s h c0 (k + xs.length) st.1
  | [], k, f, a, t, _ => ⟨_, rfl, t⟩
  | x :: xs, k, f, a, t, ha => by
    have same : ∀ p, a = some p → f = p → Told s h c0 (k + 1) f := fun p e q => by
      obtain ⟨j, rfl, t'⟩ := ha p e
      rw [← q] at t'
      refine ⟨t.1, fun y => ?_⟩
      rw [t'.2 y]
      have := Rch.stop (s := s) (h := h) (c0 := c0) (k := j) (fun y hy => (t'.2 y).mp ((t.2 y).mpr hy)) 2 y
      rw [show j + 1 + 1 = j + 2 by omega]
      exact this.symm
    have go : (∃ p, a = some p ∧ f = p) ∨ neO (eL (eP2 D.int D.int) f) (eO (eL (eP2 D.int D.int)) a) = .ok true := by
      cases a with
      | none => exact .inr (ne_none f)
      | some p =>
        by_cases q : f = p
        · exact .inl ⟨p, rfl, q⟩
        · refine .inr ?_
          rw [ne_cells, show (f == p) = false by simpa using q]; rfl
    rcases go with ⟨p, e, q⟩ | go
    · have b : yl__law_drift_1 s x (f, a) = .ok (.nx (f, a)) := by
        have : neO (eL (eP2 D.int D.int) f) (eO (eL (eP2 D.int D.int)) a) = .ok false := by rw [e, ne_cells, q, beq_self_eq_true]; rfl
        unfold yl__law_drift_1
        simp -implicitDefEqProofs only [DL.bnd_ok, DL.bnd_eta, DL.bnd_bad, DL.bnd_ex, DL.bnd_ite, DL.seqF_nx, DL.seqF_rt, DL.seqF_ite, DL.loopF_nx, DL.loopF_rt, DL.loopF_ite, DL.finR_rt, DL.finRM_rt, DL.finN_rt, DL.finN_nx, DL.finNM_rt, DL.finNM_nx, DL.finR_ite, DL.lt_eq, ite_true, ite_false, Bool.not_true, Bool.not_false, Bool.true_and, Bool.and_true, Bool.false_and, Bool.and_false, Bool.true_or, Bool.or_true, Bool.false_or, Bool.or_false, Bool.false_eq_true, decide_true, decide_false, beq_self_eq_true, beq_iff_eq, decide_eq_true_eq, reduceIte, if_true, if_false, this]
      obtain ⟨st, k1, k2⟩ := ld_loop w hi xs (k + 1) f a (same p e q) (fun p' e' => ⟨k, rfl, by
        rw [e] at e'; cases e'; rw [← q]; exact t⟩)
      exact ⟨st, by rw [forF_cons, b, loopF_nx, k1], by rw [List.length_cons, show k + (xs.length + 1) = k + 1 + xs.length by omega]; exact k2⟩
    · have c0f : c0 ∈ f := (t.2 c0).mpr (by
        have : ∀ k, Rch s h c0 k c0 := fun k => by
          induction k with
          | zero => exact rfl
          | succ k ih => exact .inl ih
        exact this k)
      obtain ⟨L, r1, r2, r3⟩ := round_ok w (cs := f) (fun e => by rw [e] at c0f; cases c0f) (ltC_nodup t.1) (fun x hx => Rch.inb hi ((t.2 x).mp hx))
      have b : yl__law_drift_1 s x (f, a) = .ok (.nx (L, some f)) := by
        unfold yl__law_drift_1
        simp -implicitDefEqProofs only [DL.bnd_ok, DL.bnd_eta, DL.bnd_bad, DL.bnd_ex, DL.bnd_ite, DL.seqF_nx, DL.seqF_rt, DL.seqF_ite, DL.loopF_nx, DL.loopF_rt, DL.loopF_ite, DL.finR_rt, DL.finRM_rt, DL.finN_rt, DL.finN_nx, DL.finNM_rt, DL.finNM_nx, DL.finR_ite, DL.lt_eq, ite_true, ite_false, Bool.not_true, Bool.not_false, Bool.true_and, Bool.and_true, Bool.false_and, Bool.and_false, Bool.true_or, Bool.or_true, Bool.false_or, Bool.or_false, Bool.false_eq_true, decide_true, decide_false, beq_self_eq_true, beq_iff_eq, decide_eq_true_eq, reduceIte, if_true, if_false, DL.lt_eq, go, r1]
      have t' : Told s h c0 (k + 1) L := ⟨r2, fun x => by
        rw [r3, t.2]
        show _ ↔ (Rch s h c0 k x ∨ (wat s h x = true ∧ ∃ y, Rch s h c0 k y ∧ x ∈ nb y))
        constructor
        · rintro (q | ⟨v, y, r, m⟩)
          · exact .inl q
          · exact .inr ⟨v, y, (t.2 y).mp r, m⟩
        · rintro (q | ⟨v, y, r, m⟩)
          · exact .inl q
          · exact .inr ⟨v, y, (t.2 y).mpr r, m⟩⟩
      obtain ⟨st, k1, k2⟩ := ld_loop w hi xs (k + 1) L (some f) t' (fun p e => ⟨k, rfl, by cases e; exact t⟩)
      exact ⟨st, by rw [forF_cons, b, loopF_nx, k1], by rw [List.length_cons, show k + (xs.length + 1) = k + 1 + xs.length by omega]; exact k2⟩
theorem law_drift_ok {s : List (List Int)} {h : Nat} (w : Sea2 s h) {c0 : Cell} (hi : Inb s h c0) (n : Nat) (hn : n ≤ 400) {L : List Cell} (hL : if (s.getD c0.1.toNat []).getD c0.2.toNat 0 = 0 then L = [c0] else Told s h c0 n L) : y__law_drift s c0 n = .ok L := by
  obtain ⟨col, g1, g2, _⟩ := depth_ok w hi
  by_cases z : (s.getD c0.1.toNat []).getD c0.2.toNat 0 = 0
  · rw [if_pos z] at hL
    subst hL
    unfold y__law_drift
    simp -implicitDefEqProofs only [DL.bnd_ok, DL.bnd_eta, DL.bnd_bad, DL.bnd_ex, DL.bnd_ite, DL.seqF_nx, DL.seqF_rt, DL.seqF_ite, DL.loopF_nx, DL.loopF_rt, DL.loopF_ite, DL.finR_rt, DL.finRM_rt, DL.finN_rt, DL.finN_nx, DL.finNM_rt, DL.finNM_nx, DL.finR_ite, DL.lt_eq, ite_true, ite_false, Bool.not_true, Bool.not_false, Bool.true_and, Bool.and_true, Bool.false_and, Bool.and_false, Bool.true_or, Bool.or_true, Bool.false_or, Bool.or_false, Bool.false_eq_true, decide_true, decide_false, beq_self_eq_true, beq_iff_eq, decide_eq_true_eq, reduceIte, if_true, if_false, g1, g2, z]
  · rw [if_neg z] at hL
    obtain ⟨st, k1, k2⟩ := ld_loop w hi (irng 0 n) 0 [c0] none ⟨List.pairwise_singleton _ _, fun x => List.mem_singleton⟩ (fun p e => by cases e)
    rw [irng_len, show 0 + ((n : Int) - 0).toNat = n by omega] at k2
    have e : st.1 = L := ltC_uniq k2.1 hL.1 fun x => by rw [k2.2, hL.2]
    have rg := rng1_ok (j := (n : Int)) (by omega) (by omega)
    unfold y__law_drift
    simp -implicitDefEqProofs only [DL.bnd_ok, DL.bnd_eta, DL.bnd_bad, DL.bnd_ex, DL.bnd_ite, DL.seqF_nx, DL.seqF_rt, DL.seqF_ite, DL.loopF_nx, DL.loopF_rt, DL.loopF_ite, DL.finR_rt, DL.finRM_rt, DL.finN_rt, DL.finN_nx, DL.finNM_rt, DL.finNM_nx, DL.finR_ite, DL.lt_eq, ite_true, ite_false, Bool.not_true, Bool.not_false, Bool.true_and, Bool.and_true, Bool.false_and, Bool.and_false, Bool.true_or, Bool.or_true, Bool.false_or, Bool.or_false, Bool.false_eq_true, decide_true, decide_false, beq_self_eq_true, beq_iff_eq, decide_eq_true_eq, reduceIte, if_true, if_false, g1, g2, z, rg, k1, e]
theorem told_sho {s : List (List Int)} {h : Nat} (w : Sea2 s h) {L : List Cell} (hl : L.length ≤ 144) (hi : ∀ x ∈ L, Inb s h x) : Sho (eT (eP2 D.int D.int) L) 10000 2 := by
  have n16 := w.n16; have h9 := w.h9
  refine (sho_eT (e := eP2 D.int D.int) (n := 47) (k := 1) (m := 144) (fun x hx => ?_) hl).mono (by omega) (by omega)
  obtain ⟨i1, i2, i3, i4⟩ := hi x hx
  exact (sho_P2 (sho_int x.1 ⟨by omega, by omega⟩) (sho_int x.2 ⟨by omega, by omega⟩)).mono (by omega) (by omega)
theorem l1_ok {sh : List (List Int) × List Int} {h : Nat} (w : Sea2 sh.1 h) {c : Cell × List Int} (hi : Inb sh.1 h c.1) {n : Int} (h0 : 0 ≤ n) (hn : n ≤ 400) (b : List Int) : yl_law_1 sh c n b = .ok (.nx b) := by
  obtain ⟨k, rfl⟩ : ∃ k : Nat, n = (k : Int) := ⟨n.toNat, by omega⟩
  obtain ⟨L, d1, d2, d3, d4⟩ := drifted_ok w hi k (by omega)
  have e1 := drift_ok w hi k (by omega) d1
  have e2 := law_drift_ok w hi k (by omega) d4
  have sh' := told_sho w d2 d3
  unfold yl_law_1
  simp -implicitDefEqProofs only [DL.bnd_ok, DL.bnd_eta, DL.bnd_bad, DL.bnd_ex, DL.bnd_ite, DL.seqF_nx, DL.seqF_rt, DL.seqF_ite, DL.loopF_nx, DL.loopF_rt, DL.loopF_ite, DL.finR_rt, DL.finRM_rt, DL.finN_rt, DL.finN_nx, DL.finNM_rt, DL.finNM_nx, DL.finR_ite, DL.lt_eq, ite_true, ite_false, Bool.not_true, Bool.not_false, Bool.true_and, Bool.and_true, Bool.false_and, Bool.and_false, Bool.true_or, Bool.or_true, Bool.false_or, Bool.or_false, Bool.false_eq_true, decide_true, decide_false, beq_self_eq_true, beq_iff_eq, decide_eq_true_eq, reduceIte, if_true, if_false, e1, e2, sh'.repr (by omega) (by omega), sh'.nes]
theorem l2_ok {sh : List (List Int) × List Int} {h : Nat} (w : Sea2 sh.1 h) (t : Int) (ht : 0 ≤ t) (n m : Int) : ∃ n' m', yl_law_2 sh t [n, m] = .ok (.nx [n', m']) := by
  obtain ⟨c, n1, m1, t1, hi⟩ := cell_ok w n m
  obtain ⟨d, n2, m2, t2, a1, a2⟩ := take_ok n1 m1 6 (by decide) (by decide)
  obtain ⟨v, g, hv⟩ := pick2i (a := 400) (b := 24) (i := t % 2) (by omega) (by omega)
  have q := fun {k : Int} (h0 : 0 ≤ k) (hn : k ≤ 400) => l1_ok (c := (c, [n1, m1])) w hi h0 hn [n2, m2]
  refine ⟨n2, m2, ?_⟩
  unfold yl_law_2
  simp -implicitDefEqProofs only [DL.bnd_ok, DL.bnd_eta, DL.bnd_bad, DL.bnd_ex, DL.bnd_ite, DL.seqF_nx, DL.seqF_rt, DL.seqF_ite, DL.loopF_nx, DL.loopF_rt, DL.loopF_ite, DL.finR_rt, DL.finRM_rt, DL.finN_rt, DL.finN_nx, DL.finNM_rt, DL.finNM_nx, DL.finR_ite, DL.lt_eq, ite_true, ite_false, Bool.not_true, Bool.not_false, Bool.true_and, Bool.and_true, Bool.false_and, Bool.and_false, Bool.true_or, Bool.or_true, Bool.false_or, Bool.or_false, Bool.false_eq_true, decide_true, decide_false, beq_self_eq_true, beq_iff_eq, decide_eq_true_eq, reduceIte, if_true, if_false, t1, t2, g, forF_cons, q (Int.le_refl 0) (by decide), q (show (0 : Int) ≤ 1 by decide) (by decide), q (show 0 ≤ 2 + d by omega) (by omega), q (show 0 ≤ v by omega) (by omega), forF_nil]
theorem l3_ok (ns : List Int) (k : Int) (hk : 0 ≤ k) : yl_law_3 ns k () = .ok (.nx ()) := by
  obtain ⟨n, m, b⟩ := box_ok ns k hk
  obtain ⟨d1, n1, m1, t1, a1, a2⟩ := take_ok n m 2 (by decide) (by decide)
  obtain ⟨v1, g1, e1⟩ := pick2i (a := 5) (b := 16) a1 a2
  obtain ⟨d2, n2, m2, t2, b1, b2⟩ := take_ok n1 m1 2 (by decide) (by decide)
  obtain ⟨v2, g2, e2⟩ := pick2i (a := 4) (b := 9) b1 b2
  obtain ⟨s, h, n3, m3, t3, w⟩ := sea_ok n2 m2 v1 v2 (by omega) (by omega)
  have r4 := rng1_ok (j := 4) (by decide) (by decide)
  obtain ⟨st, f1, _⟩ := forF_inv (κ := Unit) (body := yl_law_2 (s, [n3, m3])) (fun xs (st : List Int) => (∃ n m, st = [n, m]) ∧ ∀ t ∈ xs, 0 ≤ t) (fun y ys st hst => by
    obtain ⟨⟨n, m, rfl⟩, h2⟩ := hst
    obtain ⟨n', m', k'⟩ := l2_ok (sh := (s, [n3, m3])) w y (h2 y List.mem_cons_self) n m
    exact ⟨_, k', ⟨n', m', rfl⟩, fun z hz => h2 z (List.mem_cons_of_mem _ hz)⟩) (irng 0 4) [n3, m3] ⟨⟨n3, m3, rfl⟩, fun z hz => (irng_mem.mp hz).1⟩
  unfold yl_law_3
  simp -implicitDefEqProofs only [DL.bnd_ok, DL.bnd_eta, DL.bnd_bad, DL.bnd_ex, DL.bnd_ite, DL.seqF_nx, DL.seqF_rt, DL.seqF_ite, DL.loopF_nx, DL.loopF_rt, DL.loopF_ite, DL.finR_rt, DL.finRM_rt, DL.finN_rt, DL.finN_nx, DL.finNM_rt, DL.finNM_nx, DL.finR_ite, DL.lt_eq, ite_true, ite_false, Bool.not_true, Bool.not_false, Bool.true_and, Bool.and_true, Bool.false_and, Bool.and_false, Bool.true_or, Bool.or_true, Bool.false_or, Bool.or_false, Bool.false_eq_true, decide_true, decide_false, beq_self_eq_true, beq_iff_eq, decide_eq_true_eq, reduceIte, if_true, if_false, b, t1, g1, t2, g2, t3, r4, f1]
theorem y_law_ok (ns : List Int) : y_law ns = .ok true := by
  have rg : rng1 (max 1 (min (ns.length : Int) 4)) = .ok (irng 0 (max 1 (min (ns.length : Int) 4))) := rng1_ok (by omega) (by omega)
  have l2 : forF (κ := Unit) (yl_law_3 ns) (irng 0 (max 1 (min (ns.length : Int) 4))) () = .ok (.nx ()) := forF_same fun k hk => l3_ok ns k (irng_mem.mp hk).1
  unfold y_law
  simp -implicitDefEqProofs only [DL.bnd_ok, DL.bnd_eta, DL.bnd_bad, DL.bnd_ex, DL.bnd_ite, DL.seqF_nx, DL.seqF_rt, DL.seqF_ite, DL.loopF_nx, DL.loopF_rt, DL.loopF_ite, DL.finR_rt, DL.finRM_rt, DL.finN_rt, DL.finN_nx, DL.finNM_rt, DL.finNM_nx, DL.finR_ite, DL.lt_eq, ite_true, ite_false, Bool.not_true, Bool.not_false, Bool.true_and, Bool.and_true, Bool.false_and, Bool.and_false, Bool.true_or, Bool.or_true, Bool.false_or, Bool.or_false, Bool.false_eq_true, decide_true, decide_false, beq_self_eq_true, beq_iff_eq, decide_eq_true_eq, reduceIte, if_true, if_false, rg, l2]
theorem law_true (ns : List Int) (h : ns.length ≤ 63) : ∃ o, m_law [.rol (ns.map D.int)] = .ok (.sh (.bl true)) o := by
  have z := (r_law ns).go
  rw [y_law_ok] at z
  obtain ⟨s, h1, h2⟩ := z
  cases (show s = _ from h2)
  exact ⟨_, h1⟩

end LW

end
open PySem PySem.W PyProof.Rows
set_option maxRecDepth 100000 in
set_option maxHeartbeats 0 in
theorem PySem.Challenge.cw_laidmarks_k02_drift_holds : PySem.Challenge.rw_laidmarks_k02_drift.Holds := by
  w_on; o_law; k_head; (case hw => w_witness2)
  k_fill
  refine DL.walk_G (l := PySem.Challenge.rw_laidmarks_k02_drift) (n := 63) (k := 6) (m := LW.m_law) rfl (by decide) rfl ⟨rfl, by decide, by decide⟩ (fun w h Y => PySem.W.kIn_of Y) ?F LW.law_true
  case F =>
    intro w mg fa h KX G hmg base KB GB
    refine' LW.fin hmg (LW.mkT KX G ?a0 ?l0 ?c0 ?k0 ?a1 ?l1 ?c1 ?k1 ?a2 ?l2 ?c2 ?k2 ?a3 ?l3 ?c3 ?k3 ?a4 ?l4 ?c4 ?k4 ?a5 ?l5 ?c5 ?k5 ?a6 ?l6 ?c6 ?k6 ?a7 ?l7 ?c7 ?k7 ?a8 ?l8 ?c8 ?k8 ?a9 ?l9 ?c9 ?k9 ?a10 ?l10 ?c10 ?k10 ?a11 ?l11 ?c11 ?k11 ?a12 ?l12 ?c12 ?k12 ?a13 ?l13 ?c13 ?k13 ?a14 ?l14 ?c14 ?k14 ?a15 ?l15 ?c15 ?k15 ?a16 ?l16 ?c16 ?k16 ?a17 ?l17 ?c17 ?k17 ?a18 ?l18 ?c18 ?k18 ?z_isinstance ?z_int ?z_bool ?z_tuple ?z_len ?z_all ?z_list ?z_sorted ?z_abs ?z_range ?z_divmod ?z_dict ?z_max ?z_min ?z_repr ?v_MOST_DEPTH ?v_MOST_COLUMNS ?v_MOST_ROWS ?v_LAST_DAY)
    (case a0 => k_is)
    (case l0 => k_is)
    (case c0 => k_is)
    (case k0 => k_is)
    (case a1 => k_is)
    (case l1 => k_is)
    (case c1 => k_is)
    (case k1 => k_is)
    (case a2 => k_is)
    (case l2 => k_is)
    (case c2 => k_is)
    (case k2 => k_is)
    (case a3 => k_is)
    (case l3 => k_is)
    (case c3 => k_is)
    (case k3 => k_is)
    (case a4 => k_is)
    (case l4 => k_is)
    (case c4 => k_is)
    (case k4 => k_is)
    (case a5 => k_is)
    (case l5 => k_is)
    (case c5 => k_is)
    (case k5 => k_is)
    (case a6 => k_is)
    (case l6 => k_is)
    (case c6 => k_is)
    (case k6 => k_is)
    (case a7 => k_is)
    (case l7 => k_is)
    (case c7 => k_is)
    (case k7 => k_is)
    (case a8 => k_is)
    (case l8 => k_is)
    (case c8 => k_is)
    (case k8 => k_is)
    (case a9 => k_is)
    (case l9 => k_is)
    (case c9 => k_is)
    (case k9 => k_is)
    (case a10 => k_is)
    (case l10 => k_is)
    (case c10 => k_is)
    (case k10 => k_is)
    (case a11 => k_is)
    (case l11 => k_is)
    (case c11 => k_is)
    (case k11 => k_is)
    (case a12 => k_is)
    (case l12 => k_is)
    (case c12 => k_is)
    (case k12 => k_is)
    (case a13 => k_is)
    (case l13 => k_is)
    (case c13 => k_is)
    (case k13 => k_is)
    (case a14 => k_is)
    (case l14 => k_is)
    (case c14 => k_is)
    (case k14 => k_is)
    (case a15 => k_is)
    (case l15 => k_is)
    (case c15 => k_is)
    (case k15 => k_is)
    (case a16 => k_is)
    (case l16 => k_is)
    (case c16 => k_is)
    (case k16 => k_is)
    (case a17 => k_is)
    (case l17 => k_is)
    (case c17 => k_is)
    (case k17 => k_is)
    (case a18 => k_is)
    (case l18 => k_is)
    (case c18 => k_is)
    (case k18 => k_is)
    (case z_isinstance => k_is)
    (case z_int => k_is)
    (case z_bool => k_is)
    (case z_tuple => k_is)
    (case z_len => k_is)
    (case z_all => k_is)
    (case z_list => k_is)
    (case z_sorted => k_is)
    (case z_abs => k_is)
    (case z_range => k_is)
    (case z_divmod => k_is)
    (case z_dict => k_is)
    (case z_max => k_is)
    (case z_min => k_is)
    (case z_repr => k_is)
    (case v_MOST_DEPTH => k_is)
    (case v_MOST_COLUMNS => k_is)
    (case v_MOST_ROWS => k_is)
    (case v_LAST_DAY => k_is)

