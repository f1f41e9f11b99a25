import PyProof.Rows.All
import Wide.All
import OpenK.AllK
import Wide.FinOn
import HandS.ForMost
import HandS.ForExc
import HandS.Walk
import HandS.Star
import HandS.TupAny
import HandS.Style
import HandS.Flow
import HandS.Conv
import HandS.Strs
import HandS.IsInst
import HandS.DictComp
import HandS.Deep
import HandS.ExcSuper
import HandS.TryMany
import HandS.SuiteRaise
import HandS.Lambda
import HandS.HeadHook4
import HandS.HeadWalk
import HandS.SortKw
import HandS.NoneIn
import HandS.Remove
import HandS.SetFor
import HandS.Set
import HandS.Zip
import HandS.Defaults
import HandS.DictTup
import HandS.ListItems
import HandS.SetKeys
import HandS.Nested
import HandS.ExcField
import HandS.Head0
import HandS.Head1
import HandS.Head2
import KE.SortKeyHeap
import KE.SortData
import KE.GoesEnum
import KE.KStateDown
import KE.FramesApart
import HandS.ExcInit
import KE.KExcSuper
import PySem.Challenge.RW_crossties_k17_whole_crowd_trees_told
set_option Elab.async false
set_option linter.all false
set_option autoImplicit false
set_option maxRecDepth 100000
set_option maxHeartbeats 0
/-! WImp -/
/-! W0 -/
/-! W0: data D over the abstract heap, effects Gam, what an expression evaluates to as data (EvD). -/
namespace CW
open PySem PySem.Spec PyProof.Rows L2
/-- data: what a value stands for -/
inductive D where
  | non | bl (b : Bool) | int (i : Int) | str (x : Str)
  | lst (ds : List D) | tup (ds : List D)
  /-- a dict with text keys, in order -/
  | dic (kvs : List (Str × D))
  /-- a dict with text keys of which no more is told than which are in -/
  | keys (f : Str → Bool)
  /-- the same with tuples of texts as keys -/
  | tks (n : Nat) (f : List Str → Bool)
  /-- the object at a, of which nothing is told -/
  | opq (a : Addr)
  /-- a tuple of texts whose object is known to have no dict -/
  | tupX (xs : List Str)
  /-- an instance of the class at C -/
  | ins (C : Addr) (fs : List (Str × D))
  /-- a built-in class; a range -/
  | ty (n : String) | rng (lo hi : Int)
mutual
inductive At (S : Hp) : V → D → Prop
  | non : At S .non .non
  | bl (b : Bool) : At S (.bl b) (.bl b)
  | int (i : Int) : At S (.int i) (.int i)
  | str (x : Str) : At S (.str x) (.str x)
  | lst {a : Addr} {vs : List V} {ds : List D} : S a = some (.lst vs) → AtAll S vs ds → At S (.ref a) (.lst ds)
  | tup {a : Addr} {vs : List V} {ds : List D} : S a = some (.tup vs) → AtAll S vs ds → At S (.ref a) (.tup ds)
  | dic {a : Addr} {kvs : List (Key × V)} {ds : List (Str × D)} : S a = some (.dK kvs) → AtKv S kvs ds → At S (.ref a) (.dic ds)
  | keys {a : Addr} {kvs : List (Key × V)} {f : Str → Bool} : S a = some (.dK kvs) → (∀ x : Str, (valV kvs (Sum.inr x)).isSome = f x) → At S (.ref a) (.keys f)
  | tks {a : Addr} {kvs : List (List Key × V)} {n : Nat} {f : List Str → Bool} : S a = some (.dT kvs) → kvs.length ≤ n → (∀ x : List Str, (valV kvs (x.map Sum.inr)).isSome = f x) → At S (.ref a) (.tks n f)
  | opq (a : Addr) : At S (.ref a) (.opq a)
  | tupX {a : Addr} {ob : Obj} {xs : List Str} : S a = some (.frz ob (.tup (xs.map V.str))) → ob.cls = .type "tuple" → ob.dict = none → At S (.ref a) (.tupX xs)
  | ins {a C dx : Addr} {fs : List (Str × V)} {ds : List (Str × D)} : S a = some (.ins C dx fs) → AtFs S fs ds → At S (.ref a) (.ins C ds)
  | ty (n : String) : At S (.ty n) (.ty n)
  | rng {a : Addr} {lo hi : Int} : S a = some (.rng lo hi) → At S (.ref a) (.rng lo hi)
inductive AtAll (S : Hp) : List V → List D → Prop
  | nil : AtAll S [] []
  | cons {v : V} {vs : List V} {d : D} {ds : List D} : At S v d → AtAll S vs ds → AtAll S (v :: vs) (d :: ds)
inductive AtKv (S : Hp) : List (Key × V) → List (Str × D) → Prop
  | nil : AtKv S [] []
  | cons {x : Str} {v : V} {vs : List (Key × V)} {d : D} {ds : List (Str × D)} : At S v d → AtKv S vs ds → AtKv S ((Sum.inr x, v) :: vs) ((x, d) :: ds)
inductive AtFs (S : Hp) : List (Str × V) → List (Str × D) → Prop
  | nil : AtFs S [] []
  | cons {x : Str} {v : V} {vs : List (Str × V)} {d : D} {ds : List (Str × D)} : At S v d → AtFs S vs ds → AtFs S ((x, v) :: vs) ((x, d) :: ds)
end
def Ex (S T : Hp) : Prop := ∀ a o, S a = some o → T a = some o
theorem Ex.refl (S : Hp) : Ex S S := fun _ _ h => h
theorem Ex.trans {S T U : Hp} (a : Ex S T) (b : Ex T U) : Ex S U := fun c o h => b c o (a c o h)
theorem Ex.back {S T : Hp} (a : Ex S T) {p : Addr} (h : T p = none) : S p = none := by
  cases q : S p with
  | none => rfl
  | some o => rw [a p o q] at h; cases h
mutual
theorem At.mono {S T : Hp} (e : Ex S T) : ∀ {v : V} {d : D}, At S v d → At T v d
  | _, _, .non => .non
  | _, _, .bl b => .bl b
  | _, _, .int i => .int i
  | _, _, .str x => .str x
  | _, _, .lst h a => .lst (e _ _ h) (AtAll.mono e a)
  | _, _, .tup h a => .tup (e _ _ h) (AtAll.mono e a)
  | _, _, .dic h a => .dic (e _ _ h) (AtKv.mono e a)
  | _, _, .keys h a => .keys (e _ _ h) a
  | _, _, .tks h z a => .tks (e _ _ h) z a
  | _, _, .opq a => .opq a
  | _, _, .tupX h c d => .tupX (e _ _ h) c d
  | _, _, .ins h a => .ins (e _ _ h) (AtFs.mono e a)
  | _, _, .ty n => .ty n
  | _, _, .rng h => .rng (e _ _ h)
theorem AtAll.mono {S T : Hp} (e : Ex S T) : ∀ {v : List V} {d : List D}, AtAll S v d → AtAll T v d
  | _, _, .nil => .nil
  | _, _, .cons h t => .cons (At.mono e h) (AtAll.mono e t)
theorem AtKv.mono {S T : Hp} (e : Ex S T) : ∀ {v : List (Key × V)} {d : List (Str × D)}, AtKv S v d → AtKv T v d
  | _, _, .nil => .nil
  | _, _, .cons h t => .cons (At.mono e h) (AtKv.mono e t)
theorem AtFs.mono {S T : Hp} (e : Ex S T) : ∀ {v : List (Str × V)} {d : List (Str × D)}, AtFs S v d → AtFs T v d
  | _, _, .nil => .nil
  | _, _, .cons h t => .cons (At.mono e h) (AtFs.mono e t)
end
theorem AtAll.length {S : Hp} : ∀ {vs : List V} {ds : List D}, AtAll S vs ds → vs.length = ds.length
  | _, _, .nil => rfl
  | _, _, .cons _ t => congrArg (· + 1) t.length
theorem AtAll.get {S : Hp} : ∀ {vs : List V} {ds : List D} {i : Nat} {v : V}, AtAll S vs ds → vs[i]? = some v → ∃ d, ds[i]? = some d ∧ At S v d
  | _, _, 0, _, .cons h _, e => by simp at e; subst e; exact ⟨_, rfl, h⟩
  | _, _, i + 1, v, .cons _ t, e => by
    obtain ⟨d, h1, h2⟩ := AtAll.get (i := i) (v := v) t (by simpa using e)
    exact ⟨d, by simpa using h1, h2⟩
  | _, _, _, _, .nil, e => by simp at e
theorem AtAll.getD {S : Hp} : ∀ {vs : List V} {ds : List D} {i : Nat} {d : D}, AtAll S vs ds → ds[i]? = some d → ∃ v, vs[i]? = some v ∧ At S v d
  | _, _, 0, _, .cons h _, e => by simp at e; subst e; exact ⟨_, rfl, h⟩
  | _, _, i + 1, v, .cons _ t, e => by
    obtain ⟨d, h1, h2⟩ := AtAll.getD (i := i) (d := v) t (by simpa using e)
    exact ⟨d, by simpa using h1, h2⟩
  | _, _, _, _, .nil, e => by simp at e
theorem AtAll.append {S : Hp} : ∀ {vs ws : List V} {ds es : List D}, AtAll S vs ds → AtAll S ws es → AtAll S (vs ++ ws) (ds ++ es)
  | _, _, _, _, .nil, h => h
  | _, _, _, _, .cons a t, h => .cons a (AtAll.append t h)
theorem AtAll.snoc {S : Hp} {vs : List V} {ds : List D} {v : V} {d : D} (h : AtAll S vs ds) (k : At S v d) : AtAll S (vs ++ [v]) (ds ++ [d]) := h.append (.cons k .nil)
theorem AtAll.drop {S : Hp} : ∀ {vs : List V} {ds : List D} (n : Nat), AtAll S vs ds → AtAll S (vs.drop n) (ds.drop n)
  | _, _, 0, h => h
  | _, _, _ + 1, .nil => .nil
  | _, _, n + 1, .cons _ t => AtAll.drop n t
theorem AtAll.take {S : Hp} : ∀ {vs : List V} {ds : List D} (n : Nat), AtAll S vs ds → AtAll S (vs.take n) (ds.take n)
  | _, _, 0, _ => .nil
  | _, _, _ + 1, .nil => .nil
  | _, _, n + 1, .cons h t => .cons h (AtAll.take n t)
theorem AtAll.strs {S : Hp} : ∀ {xs : List Str} {vs : List V}, AtAll S vs (xs.map D.str) → vs = xs.map V.str
  | [], _, .nil => rfl
  | _ :: _, _, .cons (.str _) t => by rw [AtAll.strs t]; rfl
theorem AtAll.ints {S : Hp} : ∀ {xs : List Int} {vs : List V}, AtAll S vs (xs.map D.int) → vs = xs.map V.int
  | [], _, .nil => rfl
  | _ :: _, _, .cons (.int _) t => by rw [AtAll.ints t]; rfl
theorem AtAll.bls {S : Hp} : ∀ {xs : List Bool} {vs : List V}, AtAll S vs (xs.map D.bl) → vs = xs.map V.bl
  | [], _, .nil => rfl
  | _ :: _, _, .cons (.bl _) t => by rw [AtAll.bls t]; rfl
theorem AtAll.of_strs {S : Hp} : ∀ xs : List Str, AtAll S (xs.map V.str) (xs.map D.str)
  | [] => .nil
  | x :: xs => .cons (.str x) (AtAll.of_strs xs)
theorem AtAll.of_ints {S : Hp} : ∀ xs : List Int, AtAll S (xs.map V.int) (xs.map D.int)
  | [] => .nil
  | x :: xs => .cons (.int x) (AtAll.of_ints xs)
theorem AtKv.look {S : Hp} {x : Str} : ∀ {kvs : List (Key × V)} {ds : List (Str × D)}, AtKv S kvs ds → (∃ v d, valV kvs (Sum.inr x) = some v ∧ ds.lookup x = some d ∧ At S v d) ∨ (valV kvs (Sum.inr x) = none ∧ ds.lookup x = none)
  | _, _, .nil => .inr ⟨rfl, rfl⟩
  | _, _, .cons (x := y) (v := v) (d := d) h t => by
    by_cases q : y = x
    · subst q
      exact .inl ⟨v, d, valV_pos rfl, by simp [List.lookup], h⟩
    · have q1 : ¬ (Sum.inr y : Key) = Sum.inr x := fun e => q (Sum.inr.inj e)
      have q2 : (x == y) = false := by simpa using fun e : x = y => q e.symm
      rcases AtKv.look t (x := x) with ⟨v', d', h1, h2, h3⟩ | ⟨h1, h2⟩
      · exact .inl ⟨v', d', by rw [valV_neg q1]; exact h1, by simp [List.lookup, q2, h2], h3⟩
      · exact .inr ⟨by rw [valV_neg q1]; exact h1, by simp [List.lookup, q2, h2]⟩
theorem AtKv.length {S : Hp} : ∀ {vs : List (Key × V)} {ds : List (Str × D)}, AtKv S vs ds → vs.length = ds.length
  | _, _, .nil => rfl
  | _, _, .cons _ t => congrArg (· + 1) t.length
theorem AtFs.look {S : Hp} {x : Str} {d : D} : ∀ {fs : List (Str × V)} {ds : List (Str × D)}, AtFs S fs ds → ds.lookup x = some d → ∃ v, fs.lookup x = some v ∧ At S v d
  | _, _, .nil, e => by simp [List.lookup] at e
  | _, _, .cons (x := y) (v := v) (d := d') h t, e => by
    by_cases q : x = y
    · subst q
      simp [List.lookup] at e
      subst e
      exact ⟨v, by simp [List.lookup], h⟩
    · have q2 : (x == y) = false := by simpa using q
      simp [List.lookup, q2] at e
      obtain ⟨v', h1, h2⟩ := AtFs.look t e
      exact ⟨v', by simp [List.lookup, q2, h1], h2⟩
theorem AtFs.look_none {S : Hp} {x : Str} : ∀ {fs : List (Str × V)} {ds : List (Str × D)}, AtFs S fs ds → ds.lookup x = none → fs.lookup x = none
  | _, _, .nil, e => rfl
  | _, _, .cons (x := y) (v := v) (vs := vs) (d := d) (ds := ds) h t, e => by
    by_cases q : x = y
    · subst q
      simp [List.lookup] at e
    · have q2 : (x == y) = false := by simpa using q
      have e' : ds.lookup x = none := by
        have z : List.lookup x ((y, d) :: ds) = ds.lookup x := by simp only [List.lookup, q2]
        rw [← z]; exact e
      have z2 : List.lookup x ((y, v) :: vs) = vs.lookup x := by simp only [List.lookup, q2]
      rw [z2]
      exact AtFs.look_none t e'
/-! ### effects -/
/-- what no code of ours changes in place -/
def hard : HO → Prop
  | .lst _ => False
  | .dK _ => False
  | .dT _ => False
  | .ins _ _ _ => False
  | .own _ => False
  | _ => True
/-- B: the objects that may change; J: what holds of them all the while -/
structure Gam where
  B : Addr → Prop
  J : Hp → Prop
  st : ∀ H H2, (∀ a o, H a = some o → hard o ∨ B a → H2 a = some o) → J H → J H2
  lv : ∀ H b, J H → B b → H b ≠ none
def G0 : Gam := ⟨fun _ => False, fun _ => True, fun _ _ _ _ => trivial, fun _ _ _ h => h.elim⟩
/-- S: what is known for good; H: the heap -/
structure Ok (Γ : Gam) (S H : Hp) : Prop where
  ex : Ex S H
  j : Γ.J H
  off : ∀ b, Γ.B b → S b = none
structure Nx (Γ : Gam) (S H S2 H2 : Hp) : Prop where
  ex : Ex S S2
  ok : Ok Γ S2 H2
  fr : ∀ a o, ¬ Γ.B a → H a = some o → H2 a = some o
  old : ∀ a, H a ≠ none → S2 a = S a
section
variable {Γ : Gam} {S H S1 H1 S2 H2 : Hp} {p : Addr} {o : HO}
theorem Ok.nb (k : Ok Γ S H) (h : H p = none) : ¬ Γ.B p := fun b => Γ.lv H p k.j b h
theorem Ok.fresh (k : Ok Γ S H) (h : H p = none) : S p = none := k.ex.back h
theorem Nx.refl (k : Ok Γ S H) : Nx Γ S H S H := ⟨Ex.refl S, k, fun _ _ _ h => h, fun _ _ => rfl⟩
theorem Nx.live (n : Nx Γ S H S2 H2) {a : Addr} (h : H a ≠ none) : H2 a ≠ none := by
  by_cases b : Γ.B a
  · exact Γ.lv H2 a n.ok.j b
  · cases q : H a with
    | none => exact absurd q h
    | some o => rw [n.fr a o b q]; exact fun z => nomatch z
theorem Nx.trans (n : Nx Γ S H S1 H1) (m : Nx Γ S1 H1 S2 H2) : Nx Γ S H S2 H2 :=
  ⟨n.ex.trans m.ex, m.ok, fun a o b h => m.fr a o b (n.fr a o b h), fun a h => (m.old a (n.live h)).trans (n.old a h)⟩
/-- a new object, known for good -/
theorem Nx.new (k : Ok Γ S H) (h : H p = none) (o : HO) : Nx Γ S H (upd S p o) (upd H p o) := by
  have hs := k.fresh h
  refine ⟨fun a u e => ?_, ⟨fun a u e => ?_, ?_, fun b hb => ?_⟩, fun a u _ e => ?_, fun a ha => ?_⟩
  · rw [upd_ne (ne_of_none e hs)]; exact e
  · by_cases q : a = p
    · subst q; rw [upd_same] at e ⊢; exact e
    · rw [upd_ne q] at e ⊢; exact k.ex a u e
  · exact Γ.st H _ (fun a u e _ => by rw [upd_ne (ne_of_none e h)]; exact e) k.j
  · rw [upd_ne (fun z : b = p => k.nb h (z ▸ hb))]; exact k.off b hb
  · rw [upd_ne (ne_of_none e h)]; exact e
  · rw [upd_ne (fun z : a = p => ha (z ▸ h))]
/-- a new object, of which nothing is known for good -/
theorem Nx.hid (k : Ok Γ S H) (h : H p = none) (o : HO) : Nx Γ S H S (upd H p o) := by
  refine ⟨Ex.refl S, ⟨fun a u e => ?_, ?_, k.off⟩, fun a u _ e => ?_, fun a _ => rfl⟩
  · rw [upd_ne (ne_of_none (k.ex a u e) h)]; exact k.ex a u e
  · exact Γ.st H _ (fun a u e _ => by rw [upd_ne (ne_of_none e h)]; exact e) k.j
  · rw [upd_ne (ne_of_none e h)]; exact e
/-- an object that was made since, and that is not known for good, is changed -/
theorem Nx.mut (n : Nx Γ S H S1 H1) (h : H p = none) (hs : S1 p = none) {u : HO} (e1 : H1 p = some u) (sf : ¬ hard u) (k : Ok Γ S H) (o : HO) : Nx Γ S H S1 (upd H1 p o) := by
  refine ⟨n.ex, ⟨fun a x e => ?_, ?_, n.ok.off⟩, fun a x b e => ?_, n.old⟩
  · rw [upd_ne (ne_of_none e hs)]; exact n.ok.ex a x e
  · refine Γ.st H1 _ (fun a x e hb => ?_) n.ok.j
    rw [upd_ne ?_]
    · exact e
    · rintro rfl
      rcases hb with hb | hb
      · rw [e1] at e; cases e; exact sf hb
      · exact k.nb h hb
  · rw [upd_ne (ne_of_none e h)]; exact n.fr a x b e
/-- what was made since, and stands, is known for good from now on -/
theorem Nx.freeze (n : Nx Γ S H S1 H1) (h : H p = none) (hs : S1 p = none) (e1 : H1 p = some o) (k : Ok Γ S H) : Nx Γ S H (upd S1 p o) H1 := by
  refine ⟨fun a u e => ?_, ⟨fun a u e => ?_, n.ok.j, fun b hb => ?_⟩, n.fr, fun a ha => ?_⟩
  · rw [upd_ne (ne_of_none (n.ex a u e) hs)]; exact n.ex a u e
  · by_cases q : a = p
    · subst q; rw [upd_same] at e; rw [e1]; exact e
    · rw [upd_ne q] at e; exact n.ok.ex a u e
  · rw [upd_ne (fun z : b = p => k.nb h (z ▸ hb))]; exact n.ok.off b hb
  · rw [upd_ne (fun z : a = p => ha (z ▸ h))]; exact n.old a ha
theorem Ex.new (h : S p = none) : Ex S (upd S p o) := fun a u e => by rw [upd_ne (ne_of_none e h)]; exact e
/-- what holds without effects -/
theorem Ok.g0 (k : Ok Γ S H) : Ok G0 S H := ⟨k.ex, trivial, fun _ h => h.elim⟩
theorem Nx.of_g0 (k : Ok Γ S H) (n : Nx G0 S H S2 H2) : Nx Γ S H S2 H2 :=
  ⟨n.ex, ⟨n.ok.ex, Γ.st H H2 (fun a o e _ => n.fr a o (fun z => z) e) k.j, fun b hb => (n.old b (Γ.lv H b k.j hb)).trans (k.off b hb)⟩, fun a o _ e => n.fr a o (fun z => z) e, n.old⟩
end
/-! ### the slots as data -/
abbrev Rho := List (Option D)
structure Sl (S : Hp) (σ : L2.St) (ρ : Rho) : Prop where
  len : σ.length = ρ.length
  at_ : ∀ (i : Nat) (d : D), ρ[i]? = some (some d) → ∃ v, σ[i]? = some (some v) ∧ At S v d
def wipeD (ρ : Rho) : List Nat → Rho
  | [] => ρ
  | v :: vs => (wipeD ρ vs).set v none
section
variable {S T : Hp} {σ : L2.St} {ρ : Rho}
theorem Sl.mono (s : Sl S σ ρ) (e : Ex S T) : Sl T σ ρ := ⟨s.len, fun i d h => let ⟨v, a, b⟩ := s.at_ i d h; ⟨v, a, b.mono e⟩⟩
theorem Sl.set (s : Sl S σ ρ) (i : Nat) {v : V} {d : D} (h : At S v d) : Sl S (σ.set i (some v)) (ρ.set i (some d)) := by
  refine ⟨by simp [s.len], fun j e hj => ?_⟩
  by_cases q : i = j
  · subst q
    by_cases hl : i < ρ.length
    · rw [List.getElem?_set_self hl] at hj
      cases hj
      exact ⟨v, by rw [List.getElem?_set_self (by rw [s.len]; exact hl)], h⟩
    · rw [List.getElem?_eq_none (by simp; omega)] at hj; cases hj
  · rw [List.getElem?_set_ne q] at hj
    obtain ⟨w, a, b⟩ := s.at_ j e hj
    exact ⟨w, by rw [List.getElem?_set_ne q]; exact a, b⟩
theorem Sl.setN (s : Sl S σ ρ) (i : Nat) (x : Option V) : Sl S (σ.set i x) (ρ.set i none) := by
  refine ⟨by simp [s.len], fun j e hj => ?_⟩
  by_cases q : i = j
  · subst q
    by_cases hl : i < ρ.length
    · rw [List.getElem?_set_self hl] at hj; cases hj
    · rw [List.getElem?_eq_none (by simp; omega)] at hj; cases hj
  · rw [List.getElem?_set_ne q] at hj
    obtain ⟨w, a, b⟩ := s.at_ j e hj
    exact ⟨w, by rw [List.getElem?_set_ne q]; exact a, b⟩
theorem Sl.wipe (s : Sl S σ ρ) : ∀ vs : List Nat, Sl S (L2.wipe σ vs) (wipeD ρ vs)
  | [] => s
  | v :: vs => (s.wipe vs).setN v none
theorem Sl.nil : Sl S [] [] := ⟨rfl, fun i d h => by simp at h⟩
theorem Sl.cons {v : V} {d : D} (h : At S v d) (s : Sl S σ ρ) : Sl S (some v :: σ) (some d :: ρ) := by
  refine ⟨congrArg (· + 1) s.len, fun i e hi => ?_⟩
  cases i with
  | zero => simp at hi; subst hi; exact ⟨v, rfl, h⟩
  | succ i => exact s.at_ i e (by simpa using hi)
theorem Sl.skip (x : Option V) (s : Sl S σ ρ) : Sl S (x :: σ) (none :: ρ) := by
  refine ⟨congrArg (· + 1) s.len, fun i e hi => ?_⟩
  cases i with
  | zero => simp at hi
  | succ i => exact s.at_ i e (by simpa using hi)
theorem sl_start {n : Nat} : ∀ {vs : List V} {ds : List D}, AtAll S vs ds → Sl S (vs.map some ++ List.replicate n none) (ds.map some ++ List.replicate n none)
  | _, _, .nil => by
    show Sl S (List.replicate n none) (List.replicate n none)
    induction n with
    | zero => exact .nil
    | succ n ih => rw [List.replicate_succ, List.replicate_succ]; exact ih.skip none
  | _, _, .cons a t => .cons a (sl_start t)
end
/-! ### what evaluates to what -/
def EvD (Γ : Gam) (te : TE) (ρ : Rho) (d : D) : Prop := ∀ (σ : L2.St) (S H : Hp), Sl S σ ρ → Ok Γ S H → ∀ Q : VK, (∀ v S2 H2, Nx Γ S H S2 H2 → At S2 v d → Q v H2) → te σ H Q
def TvD (Γ : Gam) (tt : TT) (ρ : Rho) (b : Bool) : Prop := ∀ (σ : L2.St) (S H : Hp), Sl S σ ρ → Ok Γ S H → ∀ Q : Bool → Hp → Prop, (∀ S2 H2, Nx Γ S H S2 H2 → Q b H2) → tt σ H Q
def AvD (Γ : Gam) (ta : TA) (ρ : Rho) (ds : List D) : Prop := ∀ (σ : L2.St) (S H : Hp), Sl S σ ρ → Ok Γ S H → ∀ Q : List V → Hp → Prop, (∀ vs S2 H2, Nx Γ S H S2 H2 → AtAll S2 vs ds → Q vs H2) → ta σ H Q
/-- an operation on two values, one, a list of them -/
def RD2 (Γ : Gam) (r : R2) (a b c : D) : Prop := ∀ (x y : V) (S H : Hp), At S x a → At S y b → Ok Γ S H → ∀ Q : VK, (∀ v S2 H2, Nx Γ S H S2 H2 → At S2 v c → Q v H2) → r x y H Q
def RD1 (Γ : Gam) (r : V → Hp → VK → Prop) (a c : D) : Prop := ∀ (x : V) (S H : Hp), At S x a → Ok Γ S H → ∀ Q : VK, (∀ v S2 H2, Nx Γ S H S2 H2 → At S2 v c → Q v H2) → r x H Q
def RDA (Γ : Gam) (r : List V → Hp → VK → Prop) (as : List D) (c : D) : Prop := ∀ (xs : List V) (S H : Hp), AtAll S xs as → Ok Γ S H → ∀ Q : VK, (∀ v S2 H2, Nx Γ S H S2 H2 → At S2 v c → Q v H2) → r xs H Q
section
variable {Γ : Gam} {ρ : Rho} {te ta tb : TE} {tt tu : TT} {a b c d : D} {r : R2} {k l : Bool}
theorem EvD.is (h : EvD Γ te ρ a) (e : a = b) : EvD Γ te ρ b := e ▸ h
theorem TvD.is (h : TvD Γ tt ρ k) (e : k = l) : TvD Γ tt ρ l := e ▸ h
theorem EvD.g0 (h : EvD G0 te ρ a) : EvD Γ te ρ a := fun σ S H s k Q q => h σ S H s k.g0 Q fun v S2 H2 n => q v S2 H2 (.of_g0 k n)
theorem TvD.g0 (h : TvD G0 tt ρ k) : TvD Γ tt ρ k := fun σ S H s k Q q => h σ S H s k.g0 Q fun S2 H2 n => q S2 H2 (.of_g0 k n)
theorem ev_var {i : Nat} (h : ρ[i]? = some (some d)) : EvD Γ (tVar i) ρ d := fun σ S H s k Q q => by
  obtain ⟨v, h1, h2⟩ := s.at_ i d h
  exact ⟨v, h1, q v S H (.refl k) h2⟩
theorem ev_int {i : Int} : EvD Γ (tC (.int i)) ρ (.int i) := fun σ S H s k Q q => q _ S H (.refl k) (.int i)
theorem ev_str {x : Str} : EvD Γ (tC (.str x)) ρ (.str x) := fun σ S H s k Q q => q _ S H (.refl k) (.str x)
theorem ev_bl {x : Bool} : EvD Γ (tC (.bl x)) ρ (.bl x) := fun σ S H s k Q q => q _ S H (.refl k) (.bl x)
theorem ev_ty {n : String} : EvD Γ (tC (.ty n)) ρ (.ty n) := fun σ S H s k Q q => q _ S H (.refl k) (.ty n)
theorem ev_non : EvD Γ (tC .non) ρ .non := fun σ S H s k Q q => q _ S H (.refl k) .non
theorem ev_op (ha : EvD Γ ta ρ a) (hb : EvD Γ tb ρ b) (hr : RD2 Γ r a b c) : EvD Γ (tOp r ta tb) ρ c := fun σ S H s k Q q =>
  ha σ S H s k _ fun x S1 H1 n1 h1 => hb σ S1 H1 (s.mono n1.ex) n1.ok _ fun y S2 H2 n2 h2 => hr x y S2 H2 (h1.mono n2.ex) h2 n2.ok Q fun v S3 H3 n3 h3 => q v S3 H3 ((n1.trans n2).trans n3) h3
theorem ev_un {r : V → Hp → VK → Prop} (ha : EvD Γ ta ρ a) (hr : RD1 Γ r a c) : EvD Γ (tUn r ta) ρ c := fun σ S H s k Q q =>
  ha σ S H s k _ fun x S1 H1 n1 h1 => hr x S1 H1 h1 n1.ok Q fun v S3 H3 n3 h3 => q v S3 H3 (n1.trans n3) h3
theorem av_nil : AvD Γ tNil ρ [] := fun σ S H s k Q q => q [] S H (.refl k) .nil
theorem av_cons {tr : TA} {ds : List D} (ha : EvD Γ ta ρ a) (hr : AvD Γ tr ρ ds) : AvD Γ (tCons ta tr) ρ (a :: ds) := fun σ S H s k Q q =>
  ha σ S H s k _ fun x S1 H1 n1 h1 => hr σ S1 H1 (s.mono n1.ex) n1.ok _ fun vs S2 H2 n2 h2 => q (x :: vs) S2 H2 (n1.trans n2) (.cons (h1.mono n2.ex) h2)
theorem ev_cb {r : List V → Hp → VK → Prop} {t : TA} {ds : List D} (ha : AvD Γ t ρ ds) (hr : RDA Γ r ds c) : EvD Γ (tCB r t) ρ c := fun σ S H s k Q q =>
  ha σ S H s k _ fun vs S1 H1 n1 h1 => hr vs S1 H1 h1 n1.ok Q fun v S3 H3 n3 h3 => q v S3 H3 (n1.trans n3) h3
theorem tv_test (h : EvD Γ te ρ (.bl k)) : TvD Γ (tTest te) ρ k := fun σ S H s o Q q => h σ S H s o _ fun v S2 H2 n a => by
  cases a; exact ⟨k, rfl, q S2 H2 n⟩
theorem tv_B (h : EvD Γ te ρ (.bl k)) : TvD Γ (tB te) ρ k := fun σ S H s o Q q => h σ S H s o _ fun v S2 H2 n a => by
  cases a; exact ⟨k, rfl, q S2 H2 n⟩
theorem tv_and (h1 : TvD Γ tt ρ k) (h2 : k = true → TvD Γ tu ρ l) : TvD Γ (tAnd tt tu) ρ (k && l) := fun σ S H s o Q q => h1 σ S H s o _ fun S1 H1 n => by
  cases k with
  | true => show tu σ H1 Q; exact h2 rfl σ S1 H1 (s.mono n.ex) n.ok Q fun S2 H2 m => q S2 H2 (n.trans m)
  | false => exact q S1 H1 n
theorem tv_or (h1 : TvD Γ tt ρ k) (h2 : k = false → TvD Γ tu ρ l) : TvD Γ (tOr tt tu) ρ (k || l) := fun σ S H s o Q q => h1 σ S H s o _ fun S1 H1 n => by
  cases k with
  | true => exact q S1 H1 n
  | false => show tu σ H1 Q; exact h2 rfl σ S1 H1 (s.mono n.ex) n.ok Q fun S2 H2 m => q S2 H2 (n.trans m)
theorem tv_not (h1 : TvD Γ tt ρ k) : TvD Γ (tNot tt) ρ (!k) := fun σ S H s o Q q => h1 σ S H s o _ fun S1 H1 n => q S1 H1 n
theorem tv_yes : TvD Γ tYes ρ true := fun σ S H s o Q q => q S H (.refl o)
theorem ev_andV (h1 : EvD Γ ta ρ (.bl k)) (h2 : k = true → EvD Γ tb ρ (.bl l)) : EvD Γ (tAndV ta tb) ρ (.bl (k && l)) := fun σ S H s o Q q => h1 σ S H s o _ fun v S1 H1 n h => by
  cases h
  refine ⟨k, rfl, ?_⟩
  cases k with
  | true => show tb σ H1 Q; exact h2 rfl σ S1 H1 (s.mono n.ex) n.ok Q fun v S2 H2 m => q v S2 H2 (n.trans m)
  | false => exact q _ S1 H1 n (.bl _)
theorem ev_orV (h1 : EvD Γ ta ρ (.bl k)) (h2 : k = false → EvD Γ tb ρ (.bl l)) : EvD Γ (tOrV ta tb) ρ (.bl (k || l)) := fun σ S H s o Q q => h1 σ S H s o _ fun v S1 H1 n h => by
  cases h
  refine ⟨k, rfl, ?_⟩
  cases k with
  | true => exact q _ S1 H1 n (.bl _)
  | false => show tb σ H1 Q; exact h2 rfl σ S1 H1 (s.mono n.ex) n.ok Q fun v S2 H2 m => q v S2 H2 (n.trans m)
theorem ev_notV (h1 : EvD Γ ta ρ (.bl k)) : EvD Γ (tNotV ta) ρ (.bl (!k)) := fun σ S H s o Q q => h1 σ S H s o _ fun v S1 H1 n h => by
  cases h
  exact ⟨k, rfl, q _ S1 H1 n (.bl _)⟩
theorem ev_if (h : TvD Γ tt ρ k) (h1 : k = true → EvD Γ ta ρ d) (h2 : k = false → EvD Γ tb ρ d) : EvD Γ (tIf tt ta tb) ρ d := fun σ S H s o Q q => h σ S H s o _ fun S1 H1 n => by
  cases k with
  | true => show ta σ H1 Q; exact h1 rfl σ S1 H1 (s.mono n.ex) n.ok Q fun v S2 H2 m => q v S2 H2 (n.trans m)
  | false => show tb σ H1 Q; exact h2 rfl σ S1 H1 (s.mono n.ex) n.ok Q fun v S2 H2 m => q v S2 H2 (n.trans m)
theorem szl {n : Nat} (h : n ≤ 100000) : n ≤ sizeLine := Nat.le_trans h (by decide)
theorem szlt {n : Nat} (h : n < 100000) : n < sizeLine := Nat.lt_of_lt_of_le h (by decide)
theorem ev_lst {t : TA} {ds : List D} (h : AvD Γ t ρ ds) (hl : Nat.ble ds.length 100000 = true := by rfl) : EvD Γ (tLst t) ρ (.lst ds) := fun σ S H s o Q q => h σ S H s o _ fun vs S1 H1 n h1 =>
  ⟨szl (by rw [h1.length]; exact Nat.le_of_ble_eq_true hl), fun p hp => q _ _ _ (n.trans (.new n.ok hp _)) (.lst upd_same (h1.mono (Ex.new (n.ok.fresh hp))))⟩
theorem ev_tup {t : TA} {ds : List D} (h : AvD Γ t ρ ds) (hl : Nat.ble ds.length 100000 = true := by rfl) : EvD Γ (tTup t) ρ (.tup ds) := fun σ S H s o Q q => h σ S H s o _ fun vs S1 H1 n h1 =>
  ⟨szl (by rw [h1.length]; exact Nat.le_of_ble_eq_true hl), fun p hp => q _ _ _ (n.trans (.new n.ok hp _)) (.tup upd_same (h1.mono (Ex.new (n.ok.fresh hp))))⟩
end
/-! ### promises -/
/-- R as d: on these the def hands back d -/
def spF (Γ : Gam) (R : List D → D → Prop) : Sp := fun vs H Q _ => ∃ (as : List D) (d : D) (S : Hp), Ok Γ S H ∧ AtAll S vs as ∧ R as d ∧ ∀ v S2 H2, Nx Γ S H S2 H2 → At S2 v d → Q v H2
section
variable {Γ : Gam} {ρ : Rho} {R : List D → D → Prop} {d : D} {E : XK} {t : TA} {ta : TE} {as : List D} {C : Addr} {m : Str} {fs : List (Str × D)}
theorem ev_call (ha : AvD Γ t ρ as) (hr : R as d) : EvD Γ (tCall (spF Γ R) [] E t) ρ d := fun σ S H s o Q q => ha σ S H s o _ fun vs S1 H1 n h1 =>
  ⟨as, d, S1, n.ok, by rw [List.append_nil]; exact h1, hr, fun v S2 H2 m a => q v S2 H2 (n.trans m) a⟩
theorem ev_call0 (ha : AvD Γ t ρ as) (hr : R as d) : EvD Γ (tCall (spF G0 R) [] E t) ρ d := fun σ S H s o Q q => ha σ S H s o _ fun vs S1 H1 n h1 =>
  ⟨as, d, S1, n.ok.g0, by rw [List.append_nil]; exact h1, hr, fun v S2 H2 m a => q v S2 H2 (n.trans (.of_g0 n.ok m)) a⟩
theorem ev_meth0 (ho : EvD Γ ta ρ (.ins C fs)) (hm : fs.lookup m = none) (ha : AvD Γ t ρ as) (hr : R (.ins C fs :: as) d) : EvD Γ (tMeth C m (spF G0 R) [] E ta t) ρ d := fun σ S H s o Q q =>
  ho σ S H s o _ fun x S1 H1 n1 h1 => by
    cases h1 with
    | ins e f =>
      refine ⟨_, _, _, rfl, n1.ok.ex _ _ e, f.look_none hm, ha σ S1 H1 (s.mono n1.ex) n1.ok _ fun vs S2 H2 n2 h2 => ⟨.ins C fs :: as, d, S2, n2.ok.g0, ?_, hr, fun v S3 H3 m a => q v S3 H3 ((n1.trans n2).trans (.of_g0 n2.ok m)) a⟩⟩
      rw [List.append_nil]
      exact .cons ((At.ins e f).mono n2.ex) h2
end
end CW
/-! W1 -/
/-! W1: walks, targets, comprehensions, statements as data (SvD), mutable locals. -/
namespace CW
open PySem PySem.Spec PyProof.Rows L2
/-! ### wiping -/
theorem wipe_get (σ : L2.St) (j : Nat) : ∀ vs : List Nat, (L2.wipe σ vs)[j]? = if j ∈ vs then (if j < σ.length then some none else none) else σ[j]?
  | [] => by simp [L2.wipe]
  | v :: vs => by
    show ((L2.wipe σ vs).set v none)[j]? = _
    rw [List.getElem?_set, wipe_get σ j vs, L2.wipe_length]
    by_cases h : v = j
    · subst h; simp
    · simp only [h, if_false, List.mem_cons, show ¬ j = v from fun e => h e.symm, false_or]
theorem wipe_agree {σ τ : L2.St} {vs : List Nat} (hl : σ.length = τ.length) (h : ∀ j, j ∉ vs → σ[j]? = τ[j]?) : L2.wipe σ vs = L2.wipe τ vs := by
  apply List.ext_getElem?
  intro j
  rw [wipe_get, wipe_get, hl]
  by_cases q : j ∈ vs
  · rw [if_pos q, if_pos q]
  · rw [if_neg q, if_neg q]; exact h j q
theorem wipe_wipe (σ : L2.St) (vs : List Nat) : L2.wipe (L2.wipe σ vs) vs = L2.wipe σ vs :=
  wipe_agree (L2.wipe_length σ vs) fun j h => by rw [wipe_get, if_neg h]
/-! ### walks -/
structure Wk (Γ : Gam) (J : It) (S : Hp) (ds : List D) : Prop where
  go : ∀ i S' H', i < ds.length → Ex S S' → Ok Γ S' H' → J.go i H'
  stop : ∀ S' H', Ex S S' → Ok Γ S' H' → J.stop ds.length H'
  yld : ∀ i x S' H' H'', i < ds.length → Ex S S' → Ok Γ S' H' → J.yld i H' x H'' → ∃ S'' d, Nx Γ S' H' S'' H'' ∧ ds[i]? = some d ∧ At S'' x d
def WvD (Γ : Gam) (wi : TI) (ρ : Rho) (ds : List D) : Prop := ∀ (σ : L2.St) (S H : Hp), Sl S σ ρ → Ok Γ S H → ∀ R : It → Hp → Prop, (∀ J S2 H2, Nx Γ S H S2 H2 → Wk Γ J S2 ds → R J H2) → wi σ H R
section
variable {Γ : Gam} {ρ : Rho} {tl te : TE} {ds : List D} {K : PySem.W.Frag} {ta : TA}
theorem wv_list (h : EvD Γ tl ρ (.lst ds)) : WvD Γ (iList K tl) ρ ds := fun σ S H s k R q => h σ S H s k _ fun v S2 H2 n a => by
  cases a with
  | lst e al =>
    rename_i p vs
    have w := walk_list (K := K) (a := p) (xs := vs)
    have le := al.length
    have at_ : ∀ {S' H'}, Ex S2 S' → Ok Γ S' H' → SqL K H' p vs := fun e1 k1 => .of (k1.ex _ _ (e1 _ _ e))
    refine ⟨_, rfl, ⟨vs, .of (n.ok.ex _ _ e)⟩, q _ _ _ n ⟨fun i S' H' hi e1 k1 => w.goes i H' (by omega) (at_ e1 k1), fun S' H' e1 k1 => le ▸ w.stops H' (at_ e1 k1), fun i x S' H' H'' hi e1 k1 y => ?_⟩⟩
    obtain ⟨rfl, hx⟩ := w.yields i H' x H'' (by omega) (at_ e1 k1) y
    obtain ⟨d, hd, ad⟩ := al.get hx
    exact ⟨S', d, .refl k1, hd, ad.mono e1⟩
theorem wv_tup (h : EvD Γ tl ρ (.tup ds)) : WvD Γ (iTup K tl) ρ ds := fun σ S H s k R q => h σ S H s k _ fun v S2 H2 n a => by
  cases a with
  | tup e al =>
    rename_i p vs
    have w := walk_tup (K := K) (a := p) (xs := vs)
    have le := al.length
    have at_ : ∀ {S' H'}, Ex S2 S' → Ok Γ S' H' → SqT K H' p vs := fun e1 k1 => .of (k1.ex _ _ (e1 _ _ e))
    refine ⟨_, rfl, ⟨vs, .of (n.ok.ex _ _ e)⟩, q _ _ _ n ⟨fun i S' H' hi e1 k1 => w.goes i H' (by omega) (at_ e1 k1), fun S' H' e1 k1 => le ▸ w.stops H' (at_ e1 k1), fun i x S' H' H'' hi e1 k1 y => ?_⟩⟩
    obtain ⟨rfl, hx⟩ := w.yields i H' x H'' (by omega) (at_ e1 k1) y
    obtain ⟨d, hd, ad⟩ := al.get hx
    exact ⟨S', d, .refl k1, hd, ad.mono e1⟩
def intsD (n : Nat) : List D := (List.range n).map fun i => D.int (i : Nat)
theorem wk_range {J : It} {S : Hp} {n : Nat} {lo : Int} {f : Nat → D} (hJ : J = Itr lo n) (hf : ∀ i, f i = D.int (lo + (i : Nat))) : Wk Γ J S ((List.range n).map f) := by
  subst hJ
  have w := walk_range (lo := lo) (n := n)
  refine ⟨fun i S' H' hi _ _ => w.goes i H' (by simpa using hi) trivial, fun S' H' _ _ => by simpa using w.stops H' trivial, fun i x S' H' H'' hi e1 k1 y => ?_⟩
  obtain ⟨rfl, rfl⟩ := w.yields i H' x H'' (by simpa using hi) trivial y
  have hi' : i < n := by simpa using hi
  exact ⟨S', f i, .refl k1, by simp [hi'], by rw [hf]; exact .int _⟩
theorem wv_rng1 {n : Nat} (h : AvD Γ ta ρ [.int (n : Nat)]) (hn : n ≤ 100000) : WvD Γ (iRng1 ta) ρ (intsD n) := fun σ S H s k R q => h σ S H s k _ fun vs S2 H2 n2 a => by
  cases a with
  | cons h1 t =>
    cases h1; cases t
    exact ⟨_, rfl, by omega, by omega, q _ _ _ n2 (wk_range (lo := 0) (by simp) fun i => by simp)⟩
end
/-! ### targets -/
/-- ρ': the slots behind the target got d; all but vs stay -/
def GvD (Γ : Gam) (g : TG) (vs : List Nat) (ρ : Rho) (d : D) (ρ' : Rho) : Prop := ∀ (x : V) (σ : L2.St) (S H : Hp), At S x d → Sl S σ ρ → Ok Γ S H → ∀ Q : L2.St → Hp → Prop,
  (∀ σ', Sl S σ' ρ' → σ'.length = σ.length → (∀ j, j ∉ vs → σ'[j]? = σ[j]?) → Q σ' H) → g x σ H Q
def GsD (Γ : Gam) (g : TGs) (vs : List Nat) (ρ : Rho) (ds : List D) (ρ' : Rho) : Prop := ∀ (xs : List V) (σ : L2.St) (S H : Hp), AtAll S xs ds → Sl S σ ρ → Ok Γ S H → ∀ Q : L2.St → Hp → Prop,
  (∀ σ', Sl S σ' ρ' → σ'.length = σ.length → (∀ j, j ∉ vs → σ'[j]? = σ[j]?) → Q σ' H) → g xs σ H Q
section
variable {Γ : Gam} {ρ ρ1 ρ2 : Rho} {vs : List Nat} {d : D} {ds : List D} {g : TG} {gs : TGs} {K : PySem.W.Frag}
theorem gv_name {i : Nat} (hi : i ∈ vs) : GvD Γ (gName i) vs ρ d (ρ.set i (some d)) := fun x σ S H a s k Q q =>
  q _ (s.set i a) (by simp) fun j hj => List.getElem?_set_ne fun e => hj (by rw [← e]; exact hi)
theorem gs_nil : GsD Γ gNil vs ρ [] ρ := fun xs σ S H a s k Q q => by
  cases a; exact ⟨rfl, q σ s rfl fun _ _ => rfl⟩
theorem gs_cons (h1 : GvD Γ g vs ρ d ρ1) (h2 : GsD Γ gs vs ρ1 ds ρ2) : GsD Γ (gCons g gs) vs ρ (d :: ds) ρ2 := fun xs σ S H a s k Q q => by
  cases a with
  | cons h t => exact ⟨_, _, rfl, h1 _ σ S H h s k _ fun σ1 s1 l1 a1 => h2 _ σ1 S H t s1 k _ fun σ2 s2 l2 a2 => q σ2 s2 (l2.trans l1) fun j hj => (a2 j hj).trans (a1 j hj)⟩
theorem gv_tup {n : Nat} (h : GsD Γ gs vs ρ ds ρ1) (hn : ds.length = n := by rfl) : GvD Γ (gTup K n gs) vs ρ (.tup ds) ρ1 := fun x σ S H a s k Q q => by
  cases a with
  | tup e al => exact ⟨_, _, rfl, .of (k.ex _ _ e), al.length.trans hn, h _ σ S H al s k Q q⟩
theorem gv_lst {n : Nat} (h : GsD Γ gs vs ρ ds ρ1) (hn : ds.length = n := by rfl) : GvD Γ (gLst K n gs) vs ρ (.lst ds) ρ1 := fun x σ S H a s k Q q => by
  cases a with
  | lst e al => exact ⟨_, _, rfl, .of (k.ex _ _ e), al.length.trans hn, h _ σ S H al s k Q q⟩
end
/-! ### list comprehensions -/
/-- an object's content -/
inductive AtO (S : Hp) : HO → D → Prop
  | lst {vs : List V} {ds : List D} : AtAll S vs ds → AtO S (.lst vs) (.lst ds)
  | dK {kvs : List (Key × V)} {ds : List (Str × D)} : AtKv S kvs ds → AtO S (.dK kvs) (.dic ds)
  | dT {kvs : List (List Key × V)} {n : Nat} {f : List Str → Bool} : kvs.length ≤ n → (∀ x : List Str, (valV kvs (x.map Sum.inr)).isSome = f x) → AtO S (.dT kvs) (.tks n f)
  | ins {C dx : Addr} {fs : List (Str × V)} {ds : List (Str × D)} : AtFs S fs ds → AtO S (.ins C dx fs) (.ins C ds)
theorem AtO.mono {S T : Hp} (e : Ex S T) {o : HO} {d : D} (h : AtO S o d) : AtO T o d := by
  cases h with
  | lst h => exact .lst (h.mono e)
  | dK h => exact .dK (h.mono e)
  | dT z h => exact .dT z h
  | ins h => exact .ins (h.mono e)
theorem AtO.at_ {S : Hp} {p : Addr} {o : HO} {d : D} (h : AtO S o d) (e : S p = some o) : At S (.ref p) d := by
  cases h with
  | lst h => exact .lst e h
  | dK h => exact .dic e h
  | dT z h => exact .tks e z h
  | ins h => exact .ins e h
theorem AtO.soft {S : Hp} {o : HO} {d : D} (h : AtO S o d) : ¬ hard o := by
  cases h <;> exact fun z => z
/-- evaluates to data d, a new object -/
def EvN (Γ : Gam) (te : TE) (ρ : Rho) (d : D) : Prop := ∀ (σ : L2.St) (S H : Hp), Sl S σ ρ → Ok Γ S H → ∀ Q : VK, (∀ p S2 H2 o, Nx Γ S H S2 H2 → H p = none → S2 p = none → H2 p = some o → AtO S2 o d → Q (.ref p) H2) → te σ H Q
theorem EvN.ev {Γ : Gam} {te : TE} {ρ : Rho} {d : D} (h : EvN Γ te ρ d) : EvD Γ te ρ d := fun σ S H s k Q q => h σ S H s k Q fun p S2 H2 o n hp hs ho a =>
  q _ _ _ (n.freeze hp hs ho k) ((a.mono (Ex.new hs)).at_ upd_same)
section
variable {Γ : Gam} {ρ : Rho} {te : TE} {tt : TT} {wi : TI} {g : TG} {β : Type} {xs : List β} {enc : β → D} {vs : List Nat} {f : β → Bool} {h : β → D}
theorem map_filter_take (xs : List β) (f : β → Bool) (h : β → D) {i : Nat} {x : β} (hx : xs[i]? = some x) :
    ((xs.take (i + 1)).filter f).map h = ((xs.take i).filter f).map h ++ (if f x then [h x] else []) := by
  have e : xs.take (i + 1) = xs.take i ++ [x] := by rw [List.take_add_one, hx]; rfl
  rw [e, List.filter_append, List.map_append]
  cases q : f x <;> simp [q]
theorem ev_lcN (hw : WvD Γ wi ρ (xs.map enc)) (hb : ∀ x ∈ xs, ∃ ρ', GvD Γ g vs (wipeD ρ vs) (enc x) ρ' ∧ TvD Γ tt ρ' (f x) ∧ (f x = true → EvD Γ te ρ' (h x))) (hz : xs.length ≤ 90000) :
    EvN Γ (tLc wi g tt te vs) ρ (.lst ((xs.filter f).map h)) := fun σ S H s k Q q => hw σ S H s k _ fun J S1 H1 n1 w => by
  intro Dl hD
  have hS1 := n1.ok.fresh hD
  refine ⟨fun i m H' => m = xs.length - i ∧ i ≤ xs.length ∧ ∃ S' acc, Nx Γ S1 H1 S' H' ∧ S' Dl = none ∧ H' Dl = some (.lst acc) ∧ AtAll S' acc (((xs.take i).filter f).map h),
    ⟨xs.length, rfl, Nat.zero_le _, S1, [], .hid n1.ok hD _, hS1, upd_same, by simpa using AtAll.nil⟩, ?_⟩
  rintro i m H' ⟨rfl, hi, S', acc, n2, hs, hd, al⟩
  have e2 := n2.ex
  by_cases hlt : i < xs.length
  · refine .inr ⟨w.go i S' H' (by simpa using hlt) e2 n2.ok, fun H'' => i + 1 ≤ xs.length ∧ ∃ S' acc, Nx Γ S1 H1 S' H'' ∧ S' Dl = none ∧ H'' Dl = some (.lst acc) ∧ AtAll S' acc (((xs.take (i + 1)).filter f).map h),
      fun H'' z => ⟨xs.length - (i + 1), by omega, rfl, z.1, z.2⟩, fun x H'' y => ?_⟩
    obtain ⟨S3, d, n3, hdx, ad⟩ := w.yld i x S' H' H'' (by simpa using hlt) e2 n2.ok y
    have hx : xs[i]? = some xs[i] := List.getElem?_eq_getElem hlt
    rw [List.getElem?_map, hx] at hdx
    cases hdx
    obtain ⟨ρ', hg, ht, he⟩ := hb xs[i] (List.getElem_mem hlt)
    have sW : Sl S3 (L2.wipe σ vs) (wipeD ρ vs) := (s.mono (n1.ex.trans (e2.trans n3.ex))).wipe vs
    refine hg x _ S3 H'' ad sW n3.ok _ fun σ2 s2 l2 ag => ⟨?_, ht σ2 S3 H'' s2 n3.ok _ fun S4 H4 n4 => ?_⟩
    · rw [wipe_agree (τ := L2.wipe σ vs) l2 ag, wipe_wipe]
    · have hdl : H'' Dl = some (.lst acc) := n3.fr _ _ (n1.ok.nb hD) hd
      have hdl4 : H4 Dl = some (.lst acc) := n4.fr _ _ (n1.ok.nb hD) hdl
      have ne1 : H' Dl ≠ none := by rw [hd]; exact fun z => nomatch z
      have ne3 : H'' Dl ≠ none := by rw [hdl]; exact fun z => nomatch z
      have ne4 : H4 Dl ≠ none := by rw [hdl4]; exact fun z => nomatch z
      have hs4 : S4 Dl = none := (n4.old Dl ne3).trans ((n3.old Dl ne1).trans hs)
      have n24 := (n2.trans n3).trans n4
      have hall := map_filter_take xs f h hx
      cases hf : f xs[i] with
      | false =>
        rw [hf] at hall
        refine ⟨hlt, S4, acc, n24, hs4, hdl4, ?_⟩
        rw [hall]
        simpa using al.mono (n3.ex.trans n4.ex)
      | true =>
        rw [hf] at hall
        refine he hf σ2 S4 H4 (s2.mono n4.ex) n4.ok _ fun v S5 H5 n5 a5 => ?_
        have hdl5 : H5 Dl = some (.lst acc) := n5.fr _ _ (n1.ok.nb hD) hdl4
        have hs5 : S5 Dl = none := (n5.old Dl ne4).trans hs4
        have al5 := al.mono ((n3.ex.trans n4.ex).trans n5.ex)
        refine ⟨acc, hdl5, ?_, hlt, S5, acc ++ [v], (n24.trans n5).mut hD hs5 hdl5 (fun z => z) n1.ok _, hs5, upd_same, ?_⟩
        · have := al.length
          have h1 : (((xs.take i).filter f).map h).length ≤ xs.length := by
            rw [List.length_map]
            exact Nat.le_trans (List.length_filter_le _ _) (by rw [List.length_take]; exact Nat.min_le_right _ _)
          exact szlt (by omega)
        · rw [hall]; exact al5.snoc a5
  · have e : i = xs.length := by omega
    subst e
    refine .inl ⟨by simpa using w.stop S' H' e2 n2.ok, q Dl S' H' (.lst acc) (n1.trans n2) ?_ hs hd ?_⟩
    · cases z : H Dl with
      | none => rfl
      | some o => exact absurd hD (n1.live (by rw [z]; exact fun z => nomatch z))
    · rw [List.take_length] at al
      exact .lst al
theorem ev_lc (hw : WvD Γ wi ρ (xs.map enc)) (hb : ∀ x ∈ xs, ∃ ρ', GvD Γ g vs (wipeD ρ vs) (enc x) ρ' ∧ TvD Γ tt ρ' (f x) ∧ (f x = true → EvD Γ te ρ' (h x))) (hz : xs.length ≤ 90000) :
    EvD Γ (tLc wi g tt te vs) ρ (.lst ((xs.filter f).map h)) := (ev_lcN hw hb hz).ev
/-- without a test -/
theorem ev_lc0N (hw : WvD Γ wi ρ (xs.map enc)) (hb : ∀ x ∈ xs, ∃ ρ', GvD Γ g vs (wipeD ρ vs) (enc x) ρ' ∧ EvD Γ te ρ' (h x)) (hz : xs.length ≤ 90000) :
    EvN Γ (tLc wi g tYes te vs) ρ (.lst (xs.map h)) := by
  have z := ev_lcN (f := fun _ => true) (tt := tYes) (h := h) hw (fun x hx => let ⟨ρ', a, b⟩ := hb x hx; ⟨ρ', a, tv_yes, fun _ => b⟩) hz
  rw [List.filter_eq_self.mpr fun _ _ => rfl] at z
  exact z
theorem ev_lc0 (hw : WvD Γ wi ρ (xs.map enc)) (hb : ∀ x ∈ xs, ∃ ρ', GvD Γ g vs (wipeD ρ vs) (enc x) ρ' ∧ EvD Γ te ρ' (h x)) (hz : xs.length ≤ 90000) :
    EvD Γ (tLc wi g tYes te vs) ρ (.lst (xs.map h)) := (ev_lc0N hw hb hz).ev
section
variable {γ : Type} {enc2 : γ → D} {q : β → γ}
theorem ev_lcEN (hw : WvD Γ wi ρ (xs.map enc)) (hb : ∀ x ∈ xs, ∃ ρ', GvD Γ g vs (wipeD ρ vs) (enc x) ρ' ∧ TvD Γ tt ρ' (f x) ∧ (f x = true → EvD Γ te ρ' (enc2 (q x)))) (hz : xs.length ≤ 90000) :
    EvN Γ (tLc wi g tt te vs) ρ (.lst (((xs.filter f).map q).map enc2)) := by
  rw [List.map_map]
  exact ev_lcN (h := enc2 ∘ q) hw hb hz
theorem ev_lcE (hw : WvD Γ wi ρ (xs.map enc)) (hb : ∀ x ∈ xs, ∃ ρ', GvD Γ g vs (wipeD ρ vs) (enc x) ρ' ∧ TvD Γ tt ρ' (f x) ∧ (f x = true → EvD Γ te ρ' (enc2 (q x)))) (hz : xs.length ≤ 90000) :
    EvD Γ (tLc wi g tt te vs) ρ (.lst (((xs.filter f).map q).map enc2)) := (ev_lcEN hw hb hz).ev
theorem ev_lcE0N (hw : WvD Γ wi ρ (xs.map enc)) (hb : ∀ x ∈ xs, ∃ ρ', GvD Γ g vs (wipeD ρ vs) (enc x) ρ' ∧ EvD Γ te ρ' (enc2 (q x))) (hz : xs.length ≤ 90000) :
    EvN Γ (tLc wi g tYes te vs) ρ (.lst ((xs.map q).map enc2)) := by
  rw [List.map_map]
  exact ev_lc0N (h := enc2 ∘ q) hw hb hz
theorem ev_lcE0 (hw : WvD Γ wi ρ (xs.map enc)) (hb : ∀ x ∈ xs, ∃ ρ', GvD Γ g vs (wipeD ρ vs) (enc x) ρ' ∧ EvD Γ te ρ' (enc2 (q x))) (hz : xs.length ≤ 90000) :
    EvD Γ (tLc wi g tYes te vs) ρ (.lst ((xs.map q).map enc2)) := (ev_lcE0N hw hb hz).ev
/-- the items kept as they are -/
theorem ev_lcF (hw : WvD Γ wi ρ (xs.map enc)) (hb : ∀ x ∈ xs, ∃ ρ', GvD Γ g vs (wipeD ρ vs) (enc x) ρ' ∧ TvD Γ tt ρ' (f x) ∧ (f x = true → EvD Γ te ρ' (enc x))) (hz : xs.length ≤ 90000) :
    EvN Γ (tLc wi g tt te vs) ρ (.lst ((xs.filter f).map enc)) := ev_lcN (h := enc) hw hb hz
end
end
end CW
/-! W2 -/
/-! W2: statements as data: slots ρ, mutable locals μ, outcomes. -/
namespace CW
open PySem PySem.Spec PyProof.Rows L2
abbrev Mus := List (Nat × D)
def frz (ρ : Rho) : Mus → Rho
  | [] => ρ
  | (i, d) :: μ => (frz ρ μ).set i (some d)
structure Mu (S H H0 : Hp) (σ : L2.St) (μ : Mus) : Prop where
  at_ : ∀ i d, (i, d) ∈ μ → ∃ p o, σ[i]? = some (some (.ref p)) ∧ H0 p = none ∧ S p = none ∧ H p = some o ∧ AtO S o d
  ds : ∀ i d j e, (i, d) ∈ μ → (j, e) ∈ μ → i ≠ j → σ[i]? ≠ σ[j]?
  nd : (μ.map (·.1)).Nodup
inductive Out where
  | nx (ρ : Rho) (μ : Mus) | rt (d : D) | rn (d : D) | bk (ρ : Rho) (μ : Mus) | ct (ρ : Rho) (μ : Mus)
def Beh (Γ : Gam) (S0 H0 F : Hp) (ρ : Rho) (μ : Mus) (K : L2.St → Hp → Prop) : Prop := ∀ σ S H, Nx Γ S0 H0 S H → Ex F S → Sl S σ ρ → Mu S H H0 σ μ → K σ H
def Out.meet (Γ : Gam) (S0 H0 F : Hp) (Dn : Ends) : Out → Prop
  | .nx ρ μ => Beh Γ S0 H0 F ρ μ Dn.nx
  | .bk ρ μ => Beh Γ S0 H0 F ρ μ Dn.bk
  | .ct ρ μ => Beh Γ S0 H0 F ρ μ Dn.ct
  | .rt d => ∀ v S H, Nx Γ S0 H0 S H → At S v d → Dn.rt v H
  | .rn d => ∀ p S H o, Nx Γ S0 H0 S H → H0 p = none → S p = none → H p = some o → AtO S o d → Dn.rt (.ref p) H
def SvD (Γ : Gam) (ts : TS) (ρ : Rho) (μ : Mus) (o : Out) : Prop := ∀ (S0 H0 F S H : Hp) (σ : L2.St), Ok Γ S0 H0 → Nx Γ S0 H0 S H → Ex F S → Sl S σ ρ → Mu S H H0 σ μ → ∀ Dn : Ends, o.meet Γ S0 H0 F Dn → ts Dn σ H
def isIn (μ : Mus) (i : Nat) : Bool := (μ.map (·.1)).contains i
theorem not_in {μ : Mus} {i : Nat} (h : isIn μ i = false) : i ∉ μ.map (·.1) := fun z => by
  unfold isIn at h
  rw [List.contains_iff_mem.mpr z] at h
  cases h
section
variable {Γ : Gam} {S0 H0 F S H S2 H2 : Hp} {σ : L2.St} {ρ : Rho} {μ : Mus}
theorem Mu.nil : Mu S H H0 σ [] := ⟨fun _ _ h => (List.not_mem_nil h).elim, fun _ _ _ _ h => (List.not_mem_nil h).elim, .nil⟩
/-- what was made since the entry is there, and no effect of another -/
theorem Mu.step (m : Mu S H H0 σ μ) (k0 : Ok Γ S0 H0) (n : Nx Γ S H S2 H2) : Mu S2 H2 H0 σ μ := by
  refine ⟨fun i d h => ?_, m.ds, m.nd⟩
  obtain ⟨p, o, a, b, c, e, f⟩ := m.at_ i d h
  have ne : H p ≠ none := fun z => by rw [e] at z; cases z
  exact ⟨p, o, a, b, (n.old p ne).trans c, n.fr p o (k0.nb b) e, f.mono n.ex⟩
theorem Mu.agree {σ' : L2.St} (m : Mu S H H0 σ μ) {vs : List Nat} (hv : ∀ i ∈ vs, i ∉ μ.map (·.1)) (h : ∀ j, j ∉ vs → σ'[j]? = σ[j]?) : Mu S H H0 σ' μ := by
  have ne : ∀ {j d}, (j, d) ∈ μ → j ∉ vs := fun {j d} hj e => hv j e (List.mem_map.mpr ⟨_, hj, rfl⟩)
  refine ⟨fun j d hj => ?_, fun j d l e h1 h2 h3 => ?_, m.nd⟩
  · obtain ⟨p, o, a, r⟩ := m.at_ j d hj
    exact ⟨p, o, by rw [h j (ne hj)]; exact a, r⟩
  · rw [h j (ne h1), h l (ne h2)]
    exact m.ds j d l e h1 h2 h3
theorem Mu.set (m : Mu S H H0 σ μ) {i : Nat} (hi : i ∉ μ.map (·.1)) (x : Option V) : Mu S H H0 (σ.set i x) μ :=
  m.agree (vs := [i]) (fun j hj => by rw [List.mem_singleton.mp hj]; exact hi) fun j hj => List.getElem?_set_ne fun e => hj (by rw [e]; exact List.mem_singleton.mpr rfl)
theorem Mu.tail {x : Nat × D} (m : Mu S H H0 σ (x :: μ)) : Mu S H H0 σ μ :=
  ⟨fun i d h => m.at_ i d (List.mem_cons_of_mem _ h), fun i d j e h1 h2 => m.ds i d j e (List.mem_cons_of_mem _ h1) (List.mem_cons_of_mem _ h2), (List.nodup_cons.mp m.nd).2⟩
/-- all mutable locals held for a moment -/
theorem Mu.frz (k0 : Ok Γ S0 H0) (n : Nx Γ S0 H0 S H) (s : Sl S σ ρ) : ∀ {μ : Mus}, Mu S H H0 σ μ → ∃ S', Nx Γ S0 H0 S' H ∧ Ex S S' ∧ Sl S' σ (CW.frz ρ μ) ∧ (∀ p, (∀ i d, (i, d) ∈ μ → σ[i]? ≠ some (some (.ref p))) → S' p = S p)
  | [], m => ⟨S, n, Ex.refl S, s, fun _ _ => rfl⟩
  | (i, d) :: μ, m => by
    obtain ⟨S', n', e', s', u'⟩ := Mu.frz k0 n s m.tail
    obtain ⟨p, o, a, b, c, e, f⟩ := m.at_ i d List.mem_cons_self
    have hp : S' p = none := (u' p fun j q hj z => by
      have hij : i ≠ j := fun e => (List.nodup_cons.mp m.nd).1 (List.mem_map.mpr ⟨(j, q), hj, e.symm⟩)
      exact m.ds i d j q List.mem_cons_self (List.mem_cons_of_mem _ hj) hij (by rw [a, z])).trans c
    refine ⟨upd S' p o, n'.freeze b hp e k0, e'.trans (Ex.new hp), ?_, fun q hq => ?_⟩
    · have s2 := s'.mono (Ex.new hp (o := o))
      have at1 : At (upd S' p o) (.ref p) d := (f.mono (e'.trans (Ex.new hp))).at_ upd_same
      refine ⟨by show σ.length = ((CW.frz ρ μ).set i (some d)).length; rw [List.length_set]; exact s2.len, fun j x hj => ?_⟩
      have hj' : ((CW.frz ρ μ).set i (some d))[j]? = some (some x) := hj
      by_cases q : i = j
      · subst q
        by_cases hl : i < (CW.frz ρ μ).length
        · rw [List.getElem?_set_self hl] at hj'
          cases hj'
          exact ⟨_, a, at1⟩
        · rw [List.getElem?_eq_none (by simp; omega)] at hj'; cases hj'
      · rw [List.getElem?_set_ne q] at hj'
        exact s2.at_ j x hj'
    · rw [upd_ne (fun z : q = p => hq i d List.mem_cons_self (by rw [a, z]))]
      exact u' q fun j x hj => hq j x (List.mem_cons_of_mem _ hj)
/-- back from there -/
theorem Nx.back {S' : Hp} (k0 : Ok Γ S0 H0) (n : Nx Γ S0 H0 S H) (m : Nx Γ S' H S2 H2) : Nx Γ S0 H0 S H2 :=
  ⟨n.ex, ⟨fun a o e => m.fr a o (fun b => by rw [n.ok.off a b] at e; cases e) (n.ok.ex a o e), m.ok.j, n.ok.off⟩, fun a o b e => m.fr a o b (n.fr a o b e), n.old⟩
theorem Mu.back {S' : Hp} (m : Mu S H H0 σ μ) (k0 : Ok Γ S0 H0) (n : Nx Γ S' H S2 H2) : Mu S H2 H0 σ μ := by
  refine ⟨fun i d h => ?_, m.ds, m.nd⟩
  obtain ⟨p, o, a, b, c, e, f⟩ := m.at_ i d h
  exact ⟨p, o, a, b, c, n.fr p o (k0.nb b) e, f⟩
/-- no more than a scalar, or a list of such -/
def D.sc : D → Bool
  | .non | .bl _ | .int _ | .str _ | .ty _ => true
  | _ => false
theorem At.sc {T : Hp} {v : V} {d : D} (h : At S v d) (hd : d.sc = true) : At T v d := by
  cases h with
  | non => exact .non
  | bl b => exact .bl b
  | int i => exact .int i
  | str x => exact .str x
  | lst _ _ => cases hd
  | tup _ _ => cases hd
  | dic _ _ => cases hd
  | keys _ _ => cases hd
  | tks _ _ _ => cases hd
  | opq _ => cases hd
  | tupX _ _ _ => cases hd
  | ins _ _ => cases hd
  | ty n => exact .ty n
  | rng _ => cases hd
theorem AtAll.sc {T : Hp} : ∀ {vs : List V} {ds : List D}, AtAll S vs ds → ds.all D.sc = true → AtAll T vs ds
  | _, _, .nil, _ => .nil
  | _, _, .cons h t, e => by
    rw [List.all_cons, Bool.and_eq_true] at e
    exact .cons (h.sc e.1) (t.sc e.2)
def D.flat : D → Bool
  | .lst ds => ds.all D.sc
  | _ => false
theorem AtO.sc {T : Hp} {o : HO} {d : D} (h : AtO S o d) (e : d.flat = true) : AtO T o d := by
  cases h with
  | lst h => exact .lst (h.sc e)
  | dK h => cases e
  | dT _ h => cases e
  | ins h => cases e
theorem flat_strs (xs : List Str) : D.flat (.lst (xs.map D.str)) = true := by
  show (xs.map D.str).all D.sc = true
  rw [List.all_eq_true]
  intro d hd
  obtain ⟨x, _, rfl⟩ := List.mem_map.mp hd
  rfl
theorem flat_ints (xs : List Int) : D.flat (.lst (xs.map D.int)) = true := by
  show (xs.map D.int).all D.sc = true
  rw [List.all_eq_true]
  intro d hd
  obtain ⟨x, _, rfl⟩ := List.mem_map.mp hd
  rfl
end
section
variable {Γ : Gam} {ρ ρ1 : Rho} {μ μ1 : Mus} {t u : TS} {te ta : TE} {tt : TT} {o : Out} {d : D} {k : Bool} {i : Nat}
theorem sv_seq (h1 : SvD Γ t ρ μ (.nx ρ1 μ1)) (h2 : SvD Γ u ρ1 μ1 o) : SvD Γ (tSeq t u) ρ μ o := fun S0 H0 F S H σ k0 n f s m Dn q =>
  h1 S0 H0 F S H σ k0 n f s m { Dn with nx := u Dn } fun σ' S' H' n' f' s' m' => h2 S0 H0 F S' H' σ' k0 n' f' s' m' Dn q
theorem sv_seq_rt (h1 : SvD Γ t ρ μ (.rt d)) : SvD Γ (tSeq t u) ρ μ (.rt d) := fun S0 H0 F S H σ k0 n f s m Dn q =>
  h1 S0 H0 F S H σ k0 n f s m { Dn with nx := u Dn } q
theorem sv_seq_ct (h1 : SvD Γ t ρ μ (.ct ρ1 μ1)) : SvD Γ (tSeq t u) ρ μ (.ct ρ1 μ1) := fun S0 H0 F S H σ k0 n f s m Dn q =>
  h1 S0 H0 F S H σ k0 n f s m { Dn with nx := u Dn } q
theorem sv_seq_rn (h1 : SvD Γ t ρ μ (.rn d)) : SvD Γ (tSeq t u) ρ μ (.rn d) := fun S0 H0 F S H σ k0 n f s m Dn q =>
  h1 S0 H0 F S H σ k0 n f s m { Dn with nx := u Dn } q
theorem sv_next : SvD Γ tNext ρ μ (.nx ρ μ) := fun S0 H0 F S H σ k0 n f s m Dn q => q σ S H n f s m
theorem sv_cont : SvD Γ tCont ρ μ (.ct ρ μ) := fun S0 H0 F S H σ k0 n f s m Dn q => q σ S H n f s m
theorem sv_asg (he : EvD Γ te ρ d) (hi : isIn μ i = false := by rfl) : SvD Γ (tAsg te (gName i)) ρ μ (.nx (ρ.set i (some d)) μ) := fun S0 H0 F S H σ k0 n f s m Dn q =>
  he σ S H s n.ok _ fun v S2 H2 n2 a => q _ S2 H2 (n.trans n2) (f.trans n2.ex) ((s.mono n2.ex).set i a) ((m.step k0 n2).set (not_in hi) _)
/-- a scalar, mutable locals read -/
theorem sv_asgS (he : EvD Γ te (frz ρ μ) d) (hd : d.sc = true := by rfl) (hi : isIn μ i = false := by rfl) : SvD Γ (tAsg te (gName i)) ρ μ (.nx (ρ.set i (some d)) μ) := fun S0 H0 F S H σ k0 n f s m Dn q => by
  obtain ⟨S', n', e', s', _⟩ := m.frz k0 n s
  exact he σ S' H s' n'.ok _ fun v S2 H2 n2 a => q _ S H2 (n.back k0 n2) f (s.set i (a.sc hd)) ((m.back k0 n2).set (not_in hi) _)
theorem live_of {Γ : Gam} {S0 H0 S H : Hp} (n : Nx Γ S0 H0 S H) {p : Addr} (h : H p = none) : H0 p = none := by
  cases z : H0 p with
  | none => rfl
  | some o => exact absurd h (n.live (fun y => by rw [z] at y; cases y))
theorem Mu.put {H0 S H : Hp} {σ : L2.St} {μ : Mus} {i : Nat} {p : Addr} {o : HO} {d : D} (m : Mu S H H0 σ μ) (hi : i ∉ μ.map (·.1)) (hl : i < σ.length) (h0 : H0 p = none) (hs : S p = none) (ho : H p = some o) (a : AtO S o d)
    (hne : ∀ j e, (j, e) ∈ μ → σ[j]? ≠ some (some (.ref p))) : Mu S H H0 (σ.set i (some (.ref p))) ((i, d) :: μ) := by
  have m2 := m.set hi (some (V.ref p))
  have gi : (σ.set i (some (V.ref p)))[i]? = some (some (.ref p)) := List.getElem?_set_self hl
  have gj : ∀ j e, (j, e) ∈ μ → (σ.set i (some (V.ref p)))[j]? ≠ some (some (.ref p)) := fun j e hj => by
    rw [List.getElem?_set_ne (fun z : i = j => hi (List.mem_map.mpr ⟨_, hj, z.symm⟩))]
    exact hne j e hj
  refine ⟨fun j e hj => ?_, fun j e l f h1 h2 h3 => ?_, List.nodup_cons.mpr ⟨hi, m.nd⟩⟩
  · rcases List.mem_cons.mp hj with z | hj
    · cases z; exact ⟨p, o, gi, h0, hs, ho, a⟩
    · exact m2.at_ j e hj
  · rcases List.mem_cons.mp h1 with z1 | h1
    · cases z1
      rcases List.mem_cons.mp h2 with z2 | h2
      · cases z2; exact absurd rfl h3
      · rw [gi]; exact fun z => gj l f h2 z.symm
    · rcases List.mem_cons.mp h2 with z2 | h2
      · cases z2; rw [gi]; exact gj j e h1
      · exact m2.ds j e l f h1 h2 h3
/-- a new list or dict that will be changed -/
theorem sv_asgN (he : EvN Γ te ρ d) (hl : Nat.blt i ρ.length = true := by rfl) (hi : isIn μ i = false := by rfl) : SvD Γ (tAsg te (gName i)) ρ μ (.nx (ρ.set i none) ((i, d) :: μ)) := fun S0 H0 F S H σ k0 n f s m Dn q =>
  he σ S H s n.ok _ fun p S2 H2 o n2 hp hs ho a => by
    have m2 := m.step k0 n2
    refine q _ S2 H2 (n.trans n2) (f.trans n2.ex) ((s.mono n2.ex).setN i _) (m2.put (not_in hi) (by rw [s.len]; exact Nat.le_of_ble_eq_true hl) (live_of n hp) hs ho a fun j e hj z => ?_)
    obtain ⟨p', o', h1, _, _, h4, _⟩ := m.at_ j e hj
    rw [h1] at z
    cases z
    rw [hp] at h4
    cases h4
/-- .. made with mutable locals read, of scalars -/
theorem sv_asgNF (he : EvN Γ te (frz ρ μ) d) (hd : d.flat = true) (hl : Nat.blt i ρ.length = true := by rfl) (hi : isIn μ i = false := by rfl) : SvD Γ (tAsg te (gName i)) ρ μ (.nx (ρ.set i none) ((i, d) :: μ)) := fun S0 H0 F S H σ k0 n f s m Dn q => by
  obtain ⟨S', n', e', s', _⟩ := m.frz k0 n s
  refine he σ S' H s' n'.ok _ fun p S2 H2 o n2 hp hs ho a => ?_
  have m2 := m.back k0 n2
  refine q _ S H2 (n.back k0 n2) f (s.setN i _) (m2.put (not_in hi) (by rw [s.len]; exact Nat.le_of_ble_eq_true hl) (live_of n hp) (n.ok.fresh hp) ho (a.sc hd) fun j e hj z => ?_)
  obtain ⟨p', o', h1, _, _, h4, _⟩ := m.at_ j e hj
  rw [h1] at z
  cases z
  rw [hp] at h4
  cases h4
/-- .. kept as it is from then on -/
theorem sv_asgF (he : EvN Γ te (frz ρ μ) d) (hd : d.flat = true) (hi : isIn μ i = false := by rfl) : SvD Γ (tAsg te (gName i)) ρ μ (.nx (ρ.set i (some d)) μ) := fun S0 H0 F S H σ k0 n f s m Dn q => by
  obtain ⟨S', n', e', s', _⟩ := m.frz k0 n s
  refine he σ S' H s' n'.ok _ fun p S2 H2 o n2 hp hs ho a => ?_
  have m2 := m.back k0 n2
  have h0 := live_of n hp
  have hS := n.ok.fresh hp
  have ne : ∀ j e, (j, e) ∈ μ → ∀ p', σ[j]? = some (some (V.ref p')) → p' ≠ p := fun j e hj p' z1 z2 => by
    obtain ⟨p'', o', h1, _, _, h4, _⟩ := m.at_ j e hj
    rw [h1] at z1; cases z1
    rw [z2, hp] at h4; cases h4
  refine q _ (upd S p o) H2 ((n.back k0 n2).freeze h0 hS ho k0) (f.trans (Ex.new hS)) ((s.mono (Ex.new hS)).set i ((a.sc hd).at_ upd_same)) ?_
  have m3 := m2.set (not_in hi) (some (V.ref p))
  refine ⟨fun j e hj => ?_, m3.ds, m3.nd⟩
  obtain ⟨p', o', h1, h2, h3, h4, h5⟩ := m2.at_ j e hj
  obtain ⟨p3, o3, g1, g2, g3, g4, g5⟩ := m3.at_ j e hj
  have e1 : p3 = p' := by
    have z : i ≠ j := fun z => not_in hi (List.mem_map.mpr ⟨_, hj, z.symm⟩)
    rw [List.getElem?_set_ne z, h1] at g1
    injection g1 with g1; injection g1 with g1; injection g1 with g1
    exact g1.symm
  refine ⟨p3, o3, g1, g2, ?_, g4, g5.mono (Ex.new hS)⟩
  rw [upd_ne (by rw [e1]; exact ne j e hj p' h1)]
  exact g3
theorem sv_if (h : TvD Γ tt (frz ρ μ) k) (h1 : k = true → SvD Γ t ρ μ o) (h2 : k = false → SvD Γ u ρ μ o) : SvD Γ (tIfS tt t u) ρ μ o := fun S0 H0 F S H σ k0 n f s m Dn q => by
  obtain ⟨S', n', e', s', _⟩ := m.frz k0 n s
  refine h σ S' H s' n'.ok _ fun S2 H2 n2 => ?_
  cases k with
  | true => exact h1 rfl S0 H0 F S H2 σ k0 (n.back k0 n2) f s (m.back k0 n2) Dn q
  | false => exact h2 rfl S0 H0 F S H2 σ k0 (n.back k0 n2) f s (m.back k0 n2) Dn q
theorem sv_ret (he : EvD Γ te (frz ρ μ) d) : SvD Γ (tRet te) ρ μ (.rt d) := fun S0 H0 F S H σ k0 n f s m Dn q => by
  obtain ⟨S', n', e', s', _⟩ := m.frz k0 n s
  exact he σ S' H s' n'.ok _ fun v S2 H2 n2 a => q v S2 H2 (n'.trans n2) a
/-- a new object handed back -/
theorem sv_retE (he : EvN Γ te ρ d) : SvD Γ (tRet te) ρ μ (.rn d) := fun S0 H0 F S H σ k0 n f s m Dn q =>
  he σ S H s n.ok _ fun p S2 H2 o n2 hp hs ho a => q p S2 H2 o (n.trans n2) (live_of n hp) hs ho a
theorem sv_retN : SvD Γ tRetN ρ μ (.rt .non) := fun S0 H0 F S H σ k0 n f s m Dn q => q .non S H n .non
theorem sv_drop (he : EvD Γ te (frz ρ μ) d) : SvD Γ (tDrop te) ρ μ (.nx ρ μ) := fun S0 H0 F S H σ k0 n f s m Dn q => by
  obtain ⟨S', n', e', s', _⟩ := m.frz k0 n s
  exact he σ S' H s' n'.ok _ fun v S2 H2 n2 a => q σ S H2 (n.back k0 n2) f s (m.back k0 n2)
/-! ### loops -/
theorem Sl.fgt {S : Hp} {σ : L2.St} {ρ : Rho} (s : Sl S σ ρ) : ∀ vs : List Nat, Sl S σ (wipeD ρ vs)
  | [] => s
  | v :: vs => by
    have h := s.fgt vs
    refine ⟨by show σ.length = ((wipeD ρ vs).set v none).length; rw [List.length_set]; exact h.len, fun i d hi => ?_⟩
    have hi' : ((wipeD ρ vs).set v none)[i]? = some (some d) := hi
    by_cases q : v = i
    · subst q
      by_cases hl : v < (wipeD ρ vs).length
      · rw [List.getElem?_set_self hl] at hi'; cases hi'
      · rw [List.getElem?_eq_none (by simp; omega)] at hi'; cases hi'
    · rw [List.getElem?_set_ne q] at hi'
      exact h.at_ i d hi'
/-- less is told -/
def Out.fgt (vs : List Nat) : Out → Out
  | .nx ρ μ => .nx (wipeD ρ vs) μ
  | .bk ρ μ => .bk (wipeD ρ vs) μ
  | .ct ρ μ => .ct (wipeD ρ vs) μ
  | .rt d => .rt d
  | .rn d => .rn d
theorem sv_fgt (vs : List Nat) (h : SvD Γ t ρ μ o) : SvD Γ t ρ μ (o.fgt vs) := fun S0 H0 F S H σ k0 n f s m Dn q => h S0 H0 F S H σ k0 n f s m Dn (by
  cases o with
  | nx ρ μ => exact fun σ' S' H' n' f' s' m' => q σ' S' H' n' f' (s'.fgt vs) m'
  | bk ρ μ => exact fun σ' S' H' n' f' s' m' => q σ' S' H' n' f' (s'.fgt vs) m'
  | ct ρ μ => exact fun σ' S' H' n' f' s' m' => q σ' S' H' n' f' (s'.fgt vs) m'
  | rt d => exact q
  | rn d => exact q)
theorem sv_pre (vs : List Nat) (h : SvD Γ t (wipeD ρ vs) μ o) : SvD Γ t ρ μ o := fun S0 H0 F S H σ k0 n f s m Dn q => h S0 H0 F S H σ k0 n f (s.fgt vs) m Dn q
/-- a for: the target's slots (vs) are forgotten behind each turn; at turn kk it ends, or the body hands back -/
theorem sv_for {wi : TI} {g : TG} {vs : List Nat} {β : Type} {xs : List β} {enc : β → D} (hw : WvD Γ wi ρ (xs.map enc)) (st : Nat → Rho × Mus) (kk : Nat) (h0 : st 0 = (wipeD ρ vs, μ)) (hk : kk ≤ xs.length)
    (hs : ∀ i x, i < kk → xs[i]? = some x → ∃ ρ' ρ'', GvD Γ g vs (st i).1 (enc x) ρ' ∧ (∀ j ∈ vs, isIn (st i).2 j = false) ∧ (SvD Γ t ρ' (st i).2 (.nx ρ'' (st (i + 1)).2) ∨ SvD Γ t ρ' (st i).2 (.ct ρ'' (st (i + 1)).2)) ∧ wipeD ρ'' vs = (st (i + 1)).1)
    (he : (kk = xs.length ∧ o = .nx (st kk).1 (st kk).2) ∨ (∃ x ρ' e, xs[kk]? = some x ∧ GvD Γ g vs (st kk).1 (enc x) ρ' ∧ (∀ j ∈ vs, isIn (st kk).2 j = false) ∧ SvD Γ t ρ' (st kk).2 (.rt e) ∧ o = .rt e)) : SvD Γ (tFor wi g t) ρ μ o := by
  intro S0 H0 F S H σ k0 n f s m Dn q
  refine hw σ S H s n.ok _ fun J S1 H1 n1 w => ?_
  have lm : (xs.map enc).length = xs.length := List.length_map ..
  refine ⟨fun i mm σ' H' => mm = xs.length - i ∧ i ≤ kk ∧ ∃ S', Nx Γ S0 H0 S' H' ∧ Ex S1 S' ∧ Sl S' σ' (st i).1 ∧ Mu S' H' H0 σ' (st i).2,
    ⟨xs.length, rfl, Nat.zero_le _, S1, n.trans n1, Ex.refl _, by rw [h0]; exact (s.mono n1.ex).fgt vs, by rw [h0]; exact m.step k0 n1⟩, ?_⟩
  rintro i mm σ' H' ⟨rfl, hi, S', n', e', s', m'⟩
  by_cases hlt : i < kk
  · have hl : i < xs.length := Nat.lt_of_lt_of_le hlt hk
    refine .inr ⟨w.go i S' H' (by rw [lm]; exact hl) e' n'.ok, fun σ'' H'' => i + 1 ≤ kk ∧ ∃ S'', Nx Γ S0 H0 S'' H'' ∧ Ex S1 S'' ∧ Sl S'' σ'' (st (i + 1)).1 ∧ Mu S'' H'' H0 σ'' (st (i + 1)).2, fun σ'' H'' z => ⟨xs.length - (i + 1), by omega, rfl, z.1, z.2⟩, fun x H'' y => ?_⟩
    obtain ⟨S3, d, n3, hd, ad⟩ := w.yld i x S' H' H'' (by rw [lm]; exact hl) e' n'.ok y
    have hx : xs[i]? = some xs[i] := List.getElem?_eq_getElem hl
    rw [List.getElem?_map, hx] at hd
    cases hd
    obtain ⟨ρ', ρ'', hg, hv, hb, hr⟩ := hs i _ hlt hx
    refine hg x σ' S3 H'' ad (s'.mono n3.ex) n3.ok _ fun σ2 s2 l2 ag => ?_
    have m2 := (m'.step k0 n3).agree (fun j hj => not_in (hv j hj)) ag
    have beh : Beh Γ S0 H0 S1 ρ'' (st (i + 1)).2 fun σ'' H'' => i + 1 ≤ kk ∧ ∃ S'', Nx Γ S0 H0 S'' H'' ∧ Ex S1 S'' ∧ Sl S'' σ'' (st (i + 1)).1 ∧ Mu S'' H'' H0 σ'' (st (i + 1)).2 := fun σ4 S4 H4 n4 f4 s4 m4 => ⟨hlt, S4, n4, f4, by rw [← hr]; exact s4.fgt vs, m4⟩
    rcases hb with hb | hb
    · exact hb S0 H0 S1 S3 H'' σ2 k0 (n'.trans n3) (e'.trans n3.ex) s2 m2 _ beh
    · exact hb S0 H0 S1 S3 H'' σ2 k0 (n'.trans n3) (e'.trans n3.ex) s2 m2 _ beh
  · have ei : i = kk := by omega
    subst ei
    rcases he with ⟨hkk, rfl⟩ | ⟨x0, ρ', e, hd, hg, hv, hb, rfl⟩
    · refine .inl ⟨by rw [hkk, ← lm]; exact w.stop S' H' e' n'.ok, ?_⟩
      exact q σ' S' H' n' (f.trans (n1.ex.trans e')) s' m'
    · have hl : i < xs.length := (List.getElem?_eq_some_iff.mp hd).1
      refine .inr ⟨w.go i S' H' (by rw [lm]; exact hl) e' n'.ok, fun _ _ => False, fun _ _ z => z.elim, fun x H'' y => ?_⟩
      obtain ⟨S3, d', n3, hd', ad⟩ := w.yld i x S' H' H'' (by rw [lm]; exact hl) e' n'.ok y
      rw [List.getElem?_map, hd] at hd'
      cases hd'
      refine hg x σ' S3 H'' ad (s'.mono n3.ex) n3.ok _ fun σ2 s2 l2 ag => ?_
      have m2 := (m'.step k0 n3).agree (fun j hj => not_in (hv j hj)) ag
      exact hb S0 H0 S1 S3 H'' σ2 k0 (n'.trans n3) (e'.trans n3.ex) s2 m2 _ fun v S4 H4 n4 a4 => q v S4 H4 n4 a4
/-- a for that changes nothing, all turns -/
theorem sv_forA {wi : TI} {g : TG} {vs : List Nat} {β : Type} {xs : List β} {enc : β → D} (hw : WvD Γ wi ρ (xs.map enc)) (hv : ∀ j ∈ vs, isIn μ j = false)
    (hs : ∀ (i : Nat) x, xs[i]? = some x → ∃ ρ' ρ'', GvD Γ g vs (wipeD ρ vs) (enc x) ρ' ∧ (SvD Γ t ρ' μ (.nx ρ'' μ) ∨ SvD Γ t ρ' μ (.ct ρ'' μ)) ∧ wipeD ρ'' vs = wipeD ρ vs) : SvD Γ (tFor wi g t) ρ μ (.nx (wipeD ρ vs) μ) :=
  sv_for hw (fun _ => (wipeD ρ vs, μ)) xs.length rfl (Nat.le_refl _) (fun i x _ hx => let ⟨ρ', ρ'', a, b, c⟩ := hs i x hx; ⟨ρ', ρ'', a, hv, b, c⟩) (.inl ⟨rfl, rfl⟩)
/-- .. up to a turn that hands back -/
theorem sv_forR {wi : TI} {g : TG} {vs : List Nat} {β : Type} {xs : List β} {enc : β → D} {e : D} (hw : WvD Γ wi ρ (xs.map enc)) (hv : ∀ j ∈ vs, isIn μ j = false) (kk : Nat) {x0 : β} (hx0 : xs[kk]? = some x0)
    (hs : ∀ i x, i < kk → xs[i]? = some x → ∃ ρ' ρ'', GvD Γ g vs (wipeD ρ vs) (enc x) ρ' ∧ (SvD Γ t ρ' μ (.nx ρ'' μ) ∨ SvD Γ t ρ' μ (.ct ρ'' μ)) ∧ wipeD ρ'' vs = wipeD ρ vs)
    (he : ∃ ρ', GvD Γ g vs (wipeD ρ vs) (enc x0) ρ' ∧ SvD Γ t ρ' μ (.rt e)) : SvD Γ (tFor wi g t) ρ μ (.rt e) := by
  obtain ⟨ρ', hg, hb⟩ := he
  exact sv_for hw (fun _ => (wipeD ρ vs, μ)) kk rfl (Nat.le_of_lt (List.getElem?_eq_some_iff.mp hx0).1) (fun i x hi hx => let ⟨ρ', ρ'', a, b, c⟩ := hs i x hi hx; ⟨ρ', ρ'', a, hv, b, c⟩) (.inr ⟨x0, ρ', e, hx0, hg, hv, hb, rfl⟩)
theorem sv_while (st : Nat → Rho × Mus) (kk : Nat) (h0 : st 0 = (ρ, μ))
    (hs : ∀ i, i < kk → TvD Γ tt (frz (st i).1 (st i).2) true ∧ (SvD Γ t (st i).1 (st i).2 (.nx (st (i + 1)).1 (st (i + 1)).2)))
    (he : (TvD Γ tt (frz (st kk).1 (st kk).2) false ∧ o = .nx (st kk).1 (st kk).2) ∨ (∃ e, TvD Γ tt (frz (st kk).1 (st kk).2) true ∧ SvD Γ t (st kk).1 (st kk).2 (.rt e) ∧ o = .rt e)) : SvD Γ (tWhile tt t) ρ μ o := by
  intro S0 H0 F S H σ k0 n f s m Dn q
  refine ⟨fun mm σ' H' => ∃ i, mm = kk - i ∧ i ≤ kk ∧ ∃ S', Nx Γ S0 H0 S' H' ∧ Ex S S' ∧ Sl S' σ' (st i).1 ∧ Mu S' H' H0 σ' (st i).2, ⟨kk, 0, rfl, Nat.zero_le _, S, n, Ex.refl _, by rw [h0]; exact s, by rw [h0]; exact m⟩, ?_⟩
  rintro mm σ' H' ⟨i, rfl, hi, S', n', e', s', m'⟩
  obtain ⟨S3, n3, e3, s3, _⟩ := m'.frz k0 n' s'
  by_cases hlt : i < kk
  · obtain ⟨ht, hb⟩ := hs i hlt
    refine ht σ' S3 H' s3 n3.ok _ fun S4 H4 n4 => ?_
    rw [if_pos rfl]
    refine ⟨fun σ'' H'' => i + 1 ≤ kk ∧ ∃ S'', Nx Γ S0 H0 S'' H'' ∧ Ex S S'' ∧ Sl S'' σ'' (st (i + 1)).1 ∧ Mu S'' H'' H0 σ'' (st (i + 1)).2, fun σ'' H'' z => ⟨kk - (i + 1), by omega, i + 1, rfl, z.1, z.2⟩, ?_⟩
    exact hb S0 H0 S S' H4 σ' k0 (n'.back k0 n4) e' s' (m'.back k0 n4) _ fun σ4 S4 H4 n4 f4 s4 m4 => ⟨hlt, S4, n4, f4, s4, m4⟩
  · have ei : i = kk := by omega
    subst ei
    rcases he with ⟨ht, rfl⟩ | ⟨e, ht, hb, rfl⟩
    · refine ht σ' S3 H' s3 n3.ok _ fun S4 H4 n4 => ?_
      rw [if_neg Bool.false_ne_true]
      exact q σ' S' H4 (n'.back k0 n4) (f.trans e') s' (m'.back k0 n4)
    · refine ht σ' S3 H' s3 n3.ok _ fun S4 H4 n4 => ?_
      rw [if_pos rfl]
      refine ⟨fun _ _ => False, fun _ _ z => z.elim, ?_⟩
      exact hb S0 H0 S S' H4 σ' k0 (n'.back k0 n4) e' s' (m'.back k0 n4) _ fun v S4 H4 n4 a4 => q v S4 H4 n4 a4
end
end CW
/-! W3 -/
/-! W3: operators, subscripts, calls of built-ins as data. -/
namespace CW
open PySem PySem.Spec PyProof.Rows L2
section
variable {Γ : Gam} {ρ : Rho} {K : PySem.W.Frag}
/-! ### ints -/
theorem rd_I0 {g : Int → Int → V} {c : D} {i j : Int} (h : ∀ S, At S (g i j) c) : RD2 Γ (rI0 g) (.int i) (.int j) c := fun x y S H a b k Q q => by
  cases a; cases b; exact ⟨i, j, rfl, rfl, q _ S H (.refl k) (h S)⟩
theorem rd_I {C : Int → Int → Prop} {g : Int → Int → V} {c : D} {i j : Int} (hc : C i j) (h : ∀ S, At S (g i j) c) : RD2 Γ (rI C g) (.int i) (.int j) c := fun x y S H a b k Q q => by
  cases a; cases b; exact ⟨i, j, rfl, rfl, hc, q _ S H (.refl k) (h S)⟩
theorem rd_add {i j : Int} : RD2 Γ (rI0 fun i j => .int (i + j)) (.int i) (.int j) (.int (i + j)) := rd_I0 fun _ => .int _
theorem rd_sub {i j : Int} : RD2 Γ (rI0 fun i j => .int (i - j)) (.int i) (.int j) (.int (i - j)) := rd_I0 fun _ => .int _
theorem rd_lt {i j : Int} : RD2 Γ (rI0 fun i j => .bl (decide (i < j))) (.int i) (.int j) (.bl (decide (i < j))) := rd_I0 fun _ => .bl _
theorem rd_le {i j : Int} : RD2 Γ (rI0 fun i j => .bl (decide (i ≤ j))) (.int i) (.int j) (.bl (decide (i ≤ j))) := rd_I0 fun _ => .bl _
theorem rd_gt {i j : Int} : RD2 Γ (rI0 fun i j => .bl (decide (j < i))) (.int i) (.int j) (.bl (decide (j < i))) := rd_I0 fun _ => .bl _
theorem rd_ge {i j : Int} : RD2 Γ (rI0 fun i j => .bl (decide (j ≤ i))) (.int i) (.int j) (.bl (decide (j ≤ i))) := rd_I0 fun _ => .bl _
theorem ru_neg {i : Int} : RD1 Γ (rU fun i => .int (-i)) (.int i) (.int (-i)) := fun x S H a k Q q => by
  cases a; exact ⟨i, rfl, q _ S H (.refl k) (.int _)⟩
theorem dec_i {i j : Int} : decide (V.int i = V.int j) = decide (i = j) := by
  by_cases h : i = j
  · subst h; simp
  · rw [decide_eq_false h, decide_eq_false (fun e => h (by injection e))]
theorem dec_s {i j : Str} : decide (V.str i = V.str j) = decide (i = j) := by
  by_cases h : i = j
  · subst h; simp
  · rw [decide_eq_false h, decide_eq_false (fun e => h (by injection e))]
theorem rd_eqI {i j : Int} : RD2 Γ rEq (.int i) (.int j) (.bl (decide (i = j))) := fun x y S H a b k Q q => by
  cases a; cases b; exact ⟨rfl, q _ S H (.refl k) (by rw [dec_i]; exact .bl _)⟩
theorem rd_neI {i j : Int} : RD2 Γ rNe (.int i) (.int j) (.bl (!decide (i = j))) := fun x y S H a b k Q q => by
  cases a; cases b; exact ⟨rfl, q _ S H (.refl k) (by rw [dec_i]; exact .bl _)⟩
theorem rd_eqS {i j : Str} : RD2 Γ rEq (.str i) (.str j) (.bl (decide (i = j))) := fun x y S H a b k Q q => by
  cases a; cases b; exact ⟨rfl, q _ S H (.refl k) (by rw [dec_s]; exact .bl _)⟩
theorem rd_neS {i j : Str} : RD2 Γ rNe (.str i) (.str j) (.bl (!decide (i = j))) := fun x y S H a b k Q q => by
  cases a; cases b; exact ⟨rfl, q _ S H (.refl k) (by rw [dec_s]; exact .bl _)⟩
/-- is None, by the data -/
def D.isN : D → Bool
  | .non => true
  | _ => false
theorem At.isN {S : Hp} {v : V} {d : D} (h : At S v d) : decide (v = .non) = d.isN := by
  cases h <;> first | rfl | (exact decide_eq_false (fun e => V.noConfusion e))
theorem rd_isN {d : D} : RD2 Γ (fun x y H Q => y = .non ∧ Q (.bl (decide (x = .non))) H) d .non (.bl d.isN) := fun x y S H a b k Q q => by
  cases b; exact ⟨rfl, q _ S H (.refl k) (by rw [a.isN]; exact .bl _)⟩
theorem rd_notN {d : D} : RD2 Γ (fun x y H Q => y = .non ∧ Q (.bl (!decide (x = .non))) H) d .non (.bl (!d.isN)) := fun x y S H a b k Q q => by
  cases b; exact ⟨rfl, q _ S H (.refl k) (by rw [a.isN]; exact .bl _)⟩
theorem rd_isB {a b : Bool} : RD2 Γ rIsB (.bl a) (.bl b) (.bl (decide (a = b))) := fun x y S H h1 h2 k Q q => by
  cases h1; cases h2; exact ⟨a, b, rfl, rfl, q _ S H (.refl k) (.bl _)⟩
theorem rd_notB {a b : Bool} : RD2 Γ rNotB (.bl a) (.bl b) (.bl (!decide (a = b))) := fun x y S H h1 h2 k Q q => by
  cases h1; cases h2; exact ⟨a, b, rfl, rfl, q _ S H (.refl k) (.bl _)⟩
/-! ### in, for texts and ints -/
theorem inV_strs (x : Str) : ∀ xs : List Str, inV (V.str x) (xs.map V.str) = decide (x ∈ xs)
  | [] => rfl
  | y :: ys => by
    show (eqV (V.str y) (V.str x) || inV (V.str x) (ys.map V.str)) = _
    rw [inV_strs x ys]
    show ((y == x) || decide (x ∈ ys)) = _
    by_cases h : y = x
    · subst h; simp
    · have h' : ¬ x = y := fun e => h e.symm
      simp [h, h']
theorem inV_ints (x : Int) : ∀ xs : List Int, inV (V.int x) (xs.map V.int) = decide (x ∈ xs)
  | [] => rfl
  | y :: ys => by
    show (eqV (V.int y) (V.int x) || inV (V.int x) (ys.map V.int)) = _
    rw [inV_ints x ys]
    show ((y == x) || decide (x ∈ ys)) = _
    by_cases h : y = x
    · subst h; simp
    · have h' : ¬ x = y := fun e => h e.symm
      simp [h, h']
theorem flat_sm (xs : List Str) : (xs.map V.str).all flatV = true := by rw [List.all_map]; exact List.all_eq_true.mpr fun _ _ => rfl
theorem flat_im (xs : List Int) : (xs.map V.int).all flatV = true := by rw [List.all_map]; exact List.all_eq_true.mpr fun _ _ => rfl
theorem rd_inL {x : Str} {xs : List Str} : RD2 Γ (rIn K false) (.str x) (.lst (xs.map D.str)) (.bl (decide (x ∈ xs))) := fun v y S H a b k Q q => by
  cases a
  cases b with
  | lst e al =>
    rw [al.strs] at e
    exact ⟨_, _, rfl, .inl (.of (k.ex _ _ e)), rfl, flat_sm xs, q _ S H (.refl k) (by rw [if_neg Bool.false_ne_true, inV_strs]; exact .bl _)⟩
theorem rd_inT {x : Str} {xs : List Str} : RD2 Γ (rIn K false) (.str x) (.tup (xs.map D.str)) (.bl (decide (x ∈ xs))) := fun v y S H a b k Q q => by
  cases a
  cases b with
  | tup e al =>
    rw [al.strs] at e
    exact ⟨_, _, rfl, .inr (.of (k.ex _ _ e)), rfl, flat_sm xs, q _ S H (.refl k) (by rw [if_neg Bool.false_ne_true, inV_strs]; exact .bl _)⟩
theorem rd_ninL {x : Str} {xs : List Str} : RD2 Γ (rIn K true) (.str x) (.lst (xs.map D.str)) (.bl (!decide (x ∈ xs))) := fun v y S H a b k Q q => by
  cases a
  cases b with
  | lst e al =>
    rw [al.strs] at e
    exact ⟨_, _, rfl, .inl (.of (k.ex _ _ e)), rfl, flat_sm xs, q _ S H (.refl k) (by rw [if_pos rfl, inV_strs]; exact .bl _)⟩
theorem rd_ninT {x : Str} {xs : List Str} : RD2 Γ (rIn K true) (.str x) (.tup (xs.map D.str)) (.bl (!decide (x ∈ xs))) := fun v y S H a b k Q q => by
  cases a
  cases b with
  | tup e al =>
    rw [al.strs] at e
    exact ⟨_, _, rfl, .inr (.of (k.ex _ _ e)), rfl, flat_sm xs, q _ S H (.refl k) (by rw [if_pos rfl, inV_strs]; exact .bl _)⟩
theorem rd_inI {x : Int} {xs : List Int} : RD2 Γ (rIn K false) (.int x) (.lst (xs.map D.int)) (.bl (decide (x ∈ xs))) := fun v y S H a b k Q q => by
  cases a
  cases b with
  | lst e al =>
    rw [al.ints] at e
    exact ⟨_, _, rfl, .inl (.of (k.ex _ _ e)), rfl, flat_im xs, q _ S H (.refl k) (by rw [if_neg Bool.false_ne_true, inV_ints]; exact .bl _)⟩
theorem rd_ninI {x : Int} {xs : List Int} : RD2 Γ (rIn K true) (.int x) (.lst (xs.map D.int)) (.bl (!decide (x ∈ xs))) := fun v y S H a b k Q q => by
  cases a
  cases b with
  | lst e al =>
    rw [al.ints] at e
    exact ⟨_, _, rfl, .inl (.of (k.ex _ _ e)), rfl, flat_im xs, q _ S H (.refl k) (by rw [if_pos rfl, inV_ints]; exact .bl _)⟩
/-! ### items -/
theorem rd_ixL {ds : List D} {i : Int} {n : Nat} {d : D} (hi : i = (n : Int)) (h : ds[n]? = some d) : RD2 Γ (rIxL K) (.lst ds) (.int i) d := fun x y S H a b k Q q => by
  subst hi
  cases b
  cases a with
  | lst e al =>
    obtain ⟨v, hv, av⟩ := al.getD h
    exact ⟨_, _, _, v, rfl, rfl, .of (k.ex _ _ e), atI_nat hv, q v S H (.refl k) av⟩
theorem rd_ixT {ds : List D} {i : Int} {n : Nat} {d : D} (hi : i = (n : Int)) (h : ds[n]? = some d) : RD2 Γ (rIxT K) (.tup ds) (.int i) d := fun x y S H a b k Q q => by
  subst hi
  cases b
  cases a with
  | tup e al =>
    obtain ⟨v, hv, av⟩ := al.getD h
    exact ⟨_, _, _, v, rfl, rfl, .of (k.ex _ _ e), atI_nat hv, q v S H (.refl k) av⟩
/-! ### slices -/
def PvD (Γ : Gam) (to : TO) (ρ : Rho) (o : Option Int) : Prop := ∀ (σ : L2.St) (S H : Hp), Sl S σ ρ → Ok Γ S H → ∀ Q : Option Int → Hp → Prop, (∀ S2 H2, Nx Γ S H S2 H2 → Q o H2) → to σ H Q
theorem pv_none : PvD Γ tNoPart ρ none := fun σ S H s k Q q => q S H (.refl k)
theorem pv_some {te : TE} {i : Int} (h : EvD Γ te ρ (.int i)) : PvD Γ (tPart te) ρ (some i) := fun σ S H s k Q q => h σ S H s k _ fun v S2 H2 n a => by
  cases a; exact ⟨i, rfl, q S2 H2 n⟩
theorem cut_from {α : Type} (xs : List α) (n : Nat) : (xs.drop (HT.sIx xs.length 0 (some (n : Int)))).take (HT.sIx xs.length xs.length none - HT.sIx xs.length 0 (some (n : Int))) = xs.drop n := by
  rw [HT.sIx_nat, HT.sIx_none]
  by_cases h : n ≤ xs.length
  · rw [Nat.min_eq_left h]
    exact List.take_of_length_le (by rw [List.length_drop]; exact Nat.le_refl _)
  · have h' : xs.length ≤ n := by omega
    rw [Nat.min_eq_right h', List.drop_of_length_le h', List.drop_of_length_le (Nat.le_refl _), List.take_nil]
theorem cut_to {α : Type} (xs : List α) (n : Nat) : (xs.drop (HT.sIx xs.length 0 none)).take (HT.sIx xs.length xs.length (some (n : Int)) - HT.sIx xs.length 0 none) = xs.take n := by
  rw [HT.sIx_nat, HT.sIx_none, List.drop_zero, Nat.sub_zero]
  by_cases h : n ≤ xs.length
  · rw [Nat.min_eq_left h]
  · have h' : xs.length ≤ n := by omega
    rw [Nat.min_eq_right h', List.take_of_length_le h', List.take_of_length_le (Nat.le_refl _)]
/-- xs[n:] -/
theorem ev_fromL {te : TE} {tl : TO} {ds : List D} {i : Int} {n : Nat} (h : EvD Γ te ρ (.lst ds)) (hl : PvD Γ tl ρ (some i)) (hi : i = (n : Int)) : EvN Γ (tSl (rSlL K) te tl tNoPart) ρ (.lst (ds.drop n)) := fun σ S H s k Q q =>
  h σ S H s k _ fun v S1 H1 n1 a => hl σ S1 H1 (s.mono n1.ex) n1.ok _ fun S2 H2 n2 => by
    subst hi
    cases a with
    | lst e al =>
      rename_i p vs
      refine ⟨_, _, rfl, .of (n2.ok.ex _ _ (n2.ex _ _ e)), fun q' hq => q q' S2 _ (.lst (vs.drop n)) ((n1.trans n2).trans (.hid n2.ok hq _)) (live_of n1 (live_of n2 hq)) (n2.ok.fresh hq) ?_ (.lst ((al.mono n2.ex).drop n))⟩
      rw [upd_same]
      unfold cutV
      rw [cut_from]
/-- xs[:n] -/
theorem ev_toL {te : TE} {th : TO} {ds : List D} {i : Int} {n : Nat} (h : EvD Γ te ρ (.lst ds)) (hl : PvD Γ th ρ (some i)) (hi : i = (n : Int)) : EvN Γ (tSl (rSlL K) te tNoPart th) ρ (.lst (ds.take n)) := fun σ S H s k Q q =>
  h σ S H s k _ fun v S1 H1 n1 a => hl σ S1 H1 (s.mono n1.ex) n1.ok _ fun S2 H2 n2 => by
    subst hi
    cases a with
    | lst e al =>
      rename_i p vs
      refine ⟨_, _, rfl, .of (n2.ok.ex _ _ (n2.ex _ _ e)), fun q' hq => q q' S2 _ (.lst (vs.take n)) ((n1.trans n2).trans (.hid n2.ok hq _)) (live_of n1 (live_of n2 hq)) (n2.ok.fresh hq) ?_ (.lst ((al.mono n2.ex).take n))⟩
      rw [upd_same]
      unfold cutV
      rw [cut_to]
/-- t[n:] -/
theorem ev_fromT {te : TE} {tl : TO} {ds : List D} {i : Int} {n : Nat} (h : EvD Γ te ρ (.tup ds)) (hl : PvD Γ tl ρ (some i)) (hi : i = (n : Int)) : EvD Γ (tSl (rSlA K) te tl tNoPart) ρ (.tup (ds.drop n)) := fun σ S H s k Q q =>
  h σ S H s k _ fun v S1 H1 n1 a => hl σ S1 H1 (s.mono n1.ex) n1.ok _ fun S2 H2 n2 => by
    subst hi
    cases a with
    | tup e al =>
      rename_i p vs
      have al2 := (al.mono n2.ex).drop n
      refine ⟨_, _, rfl, .of (n2.ok.ex _ _ (n2.ex _ _ e)), fun hw => ?_, fun _ q' hq => ?_⟩
      · have e0 : vs.drop n = vs := by
          have := hw.1
          rw [HT.sIx_nat] at this
          by_cases hn : n = 0
          · rw [hn]; rfl
          · have hv : vs = [] := List.eq_nil_of_length_eq_zero (by omega)
            rw [hv, List.drop_nil]
        rw [e0] at al2
        exact q _ S2 H2 (n1.trans n2) (.tup (n2.ex _ _ e) al2)
      · refine q _ _ _ ((n1.trans n2).trans (.new n2.ok hq _)) (.tup (vs := vs.drop n) ?_ (al2.mono (Ex.new (n2.ok.fresh hq))))
        rw [upd_same]
        unfold cutV
        rw [cut_from]
/-! ### built-ins of lists -/
theorem ra_len {ds : List D} : RDA Γ (fun xs H Q => ∃ p ys, xs = [.ref p] ∧ (SqL K H p ys ∨ SqT K H p ys) ∧ Q (.int ys.length) H) [.lst ds] (.int ds.length) := fun xs S H a k Q q => by
  cases a with
  | cons h t =>
    cases t
    cases h with
    | lst e al => exact ⟨_, _, rfl, .inl (.of (k.ex _ _ e)), q _ S H (.refl k) (by rw [al.length]; exact .int _)⟩
theorem ra_lenT {ds : List D} : RDA Γ (fun xs H Q => ∃ p ys, xs = [.ref p] ∧ (SqL K H p ys ∨ SqT K H p ys) ∧ Q (.int ys.length) H) [.tup ds] (.int ds.length) := fun xs S H a k Q q => by
  cases a with
  | cons h t =>
    cases t
    cases h with
    | tup e al => exact ⟨_, _, rfl, .inr (.of (k.ex _ _ e)), q _ S H (.refl k) (by rw [al.length]; exact .int _)⟩
theorem ra_all {bs : List Bool} : RDA Γ (rAll K) [.lst (bs.map D.bl)] (.bl (bs.all id)) := fun xs S H a k Q q => by
  cases a with
  | cons h t =>
    cases t
    cases h with
    | lst e al => rw [al.bls] at e; exact ⟨_, bs, rfl, .of (k.ex _ _ e), q _ S H (.refl k) (.bl _)⟩
theorem ra_any {bs : List Bool} : RDA Γ (rAny K) [.lst (bs.map D.bl)] (.bl (bs.any id)) := fun xs S H a k Q q => by
  cases a with
  | cons h t =>
    cases t
    cases h with
    | lst e al => rw [al.bls] at e; exact ⟨_, bs, rfl, .of (k.ex _ _ e), q _ S H (.refl k) (.bl _)⟩
theorem ra_sum {ns : List Int} : RDA Γ (rSum K) [.lst (ns.map D.int)] (.int ns.sum) := fun xs S H a k Q q => by
  cases a with
  | cons h t =>
    cases t
    cases h with
    | lst e al => rw [al.ints] at e; exact ⟨_, ns, rfl, .of (k.ex _ _ e), q _ S H (.refl k) (.int _)⟩
/-- list(..), a new list -/
theorem en_listT {t : TA} {ds : List D} (h : AvD Γ t ρ [.tup ds]) : EvN Γ (tCB (fun xs H Q => ∃ p ys, xs = [.ref p] ∧ (SqL K H p ys ∨ SqT K H p ys) ∧ ∀ l, H l = none → Q (.ref l) (upd H l (.lst ys))) t) ρ (.lst ds) := fun σ S H s k Q q => h σ S H s k _ fun vs S1 H1 n1 a => by
  cases a with
  | cons h1 t1 =>
    cases t1
    cases h1 with
    | tup e al => exact ⟨_, _, rfl, .inr (.of (n1.ok.ex _ _ e)), fun l hl => q l S1 _ _ (n1.trans (.hid n1.ok hl _)) (live_of n1 hl) (n1.ok.fresh hl) upd_same (.lst al)⟩
theorem en_listL {t : TA} {ds : List D} (h : AvD Γ t ρ [.lst ds]) : EvN Γ (tCB (fun xs H Q => ∃ p ys, xs = [.ref p] ∧ (SqL K H p ys ∨ SqT K H p ys) ∧ ∀ l, H l = none → Q (.ref l) (upd H l (.lst ys))) t) ρ (.lst ds) := fun σ S H s k Q q => h σ S H s k _ fun vs S1 H1 n1 a => by
  cases a with
  | cons h1 t1 =>
    cases t1
    cases h1 with
    | lst e al => exact ⟨_, _, rfl, .inl (.of (n1.ok.ex _ _ e)), fun l hl => q l S1 _ _ (n1.trans (.hid n1.ok hl _)) (live_of n1 hl) (n1.ok.fresh hl) upd_same (.lst al)⟩
/-- tuple(list) -/
theorem ra_tuple {ds : List D} : RDA Γ (fun xs H Q => ∃ p ys, xs = [.ref p] ∧ ((SqL K H p ys ∧ ∀ l, H l = none → Q (.ref l) (upd H l (.tup ys))) ∨ (SqT K H p ys ∧ Q (.ref p) H))) [.lst ds] (.tup ds) := fun xs S H a k Q q => by
  cases a with
  | cons h1 t1 =>
    cases t1
    cases h1 with
    | lst e al => exact ⟨_, _, rfl, .inl ⟨.of (k.ex _ _ e), fun l hl => q _ _ _ (.new k hl _) (.tup upd_same (al.mono (Ex.new (k.fresh hl))))⟩⟩
theorem en_lst {t : TA} {ds : List D} (h : AvD Γ t ρ ds) (hl : Nat.ble ds.length 100000 = true := by rfl) : EvN Γ (tLst t) ρ (.lst ds) := fun σ S H s o Q q => h σ S H s o _ fun vs S1 H1 n h1 =>
  ⟨szl (by rw [h1.length]; exact Nat.le_of_ble_eq_true hl), fun p hp => q p S1 _ _ (n.trans (.hid n.ok hp _)) (live_of n hp) (n.ok.fresh hp) upd_same (.lst h1)⟩
/-- *e in a display -/
theorem av_star {te : TE} {t : TA} {ds es : List D} (h : EvD Γ te ρ (.lst ds)) (hr : AvD Γ t ρ es) : AvD Γ (StX.tStar K te t) ρ (ds ++ es) := fun σ S H s k Q q => h σ S H s k _ fun v S1 H1 n1 a => by
  cases a with
  | lst e al => exact ⟨_, _, rfl, .inr (.of (n1.ok.ex _ _ e)), hr σ S1 H1 (s.mono n1.ex) n1.ok _ fun vs S2 H2 n2 a2 => q _ S2 H2 (n1.trans n2) ((al.mono n2.ex).append a2)⟩
theorem av_starT {te : TE} {t : TA} {ds es : List D} (h : EvD Γ te ρ (.tup ds)) (hr : AvD Γ t ρ es) : AvD Γ (StX.tStar K te t) ρ (ds ++ es) := fun σ S H s k Q q => h σ S H s k _ fun v S1 H1 n1 a => by
  cases a with
  | tup e al => exact ⟨_, _, rfl, .inl (.of (n1.ok.ex _ _ e)), hr σ S1 H1 (s.mono n1.ex) n1.ok _ fun vs S2 H2 n2 a2 => q _ S2 H2 (n1.trans n2) ((al.mono n2.ex).append a2)⟩
/-! ### fields, dicts -/
theorem ev_fld {ta : TE} {C : Addr} {fs : List (Str × D)} {f : Str} {d : D} (h : EvD Γ ta ρ (.ins C fs)) (cl : Cls K C) (na : NoAttr K C f) (hf : fs.lookup f = some d) : EvD Γ (tFld K ta f) ρ d := fun σ S H s k Q q => h σ S H s k _ fun v S1 H1 n a => by
  cases a with
  | ins e al =>
    obtain ⟨v, h1, h2⟩ := al.look hf
    exact ⟨_, _, _, _, v, rfl, n.ok.ex _ _ e, cl, na, h1, q v S1 H1 n h2⟩
theorem ev_dget {td ty : TE} {kvs : List (Str × D)} {x : Str} {d : D} (h : EvD Γ td ρ (.dic kvs)) (hy : EvD Γ ty ρ (.str x)) (hx : kvs.lookup x = some d) : EvD Γ (tDGet td ty) ρ d := fun σ S H s k Q q =>
  h σ S H s k _ fun v S1 H1 n1 a => hy σ S1 H1 (s.mono n1.ex) n1.ok _ fun y S2 H2 n2 b => by
    cases b
    cases a with
    | dic e al =>
      rcases al.look (x := x) with ⟨v, d', h1, h2, h3⟩ | ⟨_, h2⟩
      · rw [hx] at h2; cases h2
        exact ⟨_, v, rfl, by have := DGet.k (k := Sum.inr x) (n2.ok.ex _ _ (n2.ex _ _ e)); rw [h1] at this; exact this, q v S2 H2 (n1.trans n2) (h3.mono n2.ex)⟩
      · rw [hx] at h2; cases h2
theorem ev_dinK {td ty : TE} {f : Str → Bool} {x : Str} (hy : EvD Γ ty ρ (.str x)) (h : EvD Γ td ρ (.keys f)) : EvD Γ (tDIn ty td) ρ (.bl (f x)) := fun σ S H s k Q q =>
  hy σ S H s k _ fun y S1 H1 n1 b => h σ S1 H1 (s.mono n1.ex) n1.ok _ fun v S2 H2 n2 a => by
    cases b
    cases a with
    | keys e al => exact ⟨_, _, rfl, DGet.k (k := Sum.inr x) (n2.ok.ex _ _ e), q _ S2 H2 (n1.trans n2) (by rw [al x]; exact .bl _)⟩
theorem ev_din {td ty : TE} {kvs : List (Str × D)} {x : Str} (hy : EvD Γ ty ρ (.str x)) (h : EvD Γ td ρ (.dic kvs)) : EvD Γ (tDIn ty td) ρ (.bl (kvs.lookup x).isSome) := fun σ S H s k Q q =>
  hy σ S H s k _ fun y S1 H1 n1 b => h σ S1 H1 (s.mono n1.ex) n1.ok _ fun v S2 H2 n2 a => by
    cases b
    cases a with
    | dic e al =>
      refine ⟨_, _, rfl, DGet.k (k := Sum.inr x) (n2.ok.ex _ _ e), q _ S2 H2 (n1.trans n2) ?_⟩
      rcases al.look (x := x) with ⟨v, d', h1, h2, _⟩ | ⟨h1, h2⟩
      · rw [h1, h2]; exact .bl _
      · rw [h1, h2]; exact .bl _
theorem ev_dnin {td ty : TE} {kvs : List (Str × D)} {x : Str} (hy : EvD Γ ty ρ (.str x)) (h : EvD Γ td ρ (.dic kvs)) : EvD Γ (tDNotIn ty td) ρ (.bl (!(kvs.lookup x).isSome)) := fun σ S H s k Q q =>
  hy σ S H s k _ fun y S1 H1 n1 b => h σ S1 H1 (s.mono n1.ex) n1.ok _ fun v S2 H2 n2 a => by
    cases b
    cases a with
    | dic e al =>
      refine ⟨_, _, rfl, DGet.k (k := Sum.inr x) (n2.ok.ex _ _ e), q _ S2 H2 (n1.trans n2) ?_⟩
      rcases al.look (x := x) with ⟨v, d', h1, h2, _⟩ | ⟨h1, h2⟩
      · rw [h1, h2]; exact .bl _
      · rw [h1, h2]; exact .bl _
/-- isinstance(x, T) -/
theorem ra_isi {d : D} {n : String} {b : Bool} {T : V → Value → Prop} (h : ∀ v S H, At S v d → Ex S H → ∃ t, TyX K H v t ∧ PySem.W.kitOne K t (.type n) = some b) : RDA Γ (rIsi K) [d, .ty n] (.bl b) := fun xs S H a k Q q => by
  cases a with
  | cons h1 t =>
    cases t with
    | cons h2 t2 =>
      cases t2
      cases h2
      obtain ⟨t, ht, hk⟩ := h _ S H h1 k.ex
      exact ⟨_, _, t, _, b, rfl, .ty n, ht, hk, q _ S H (.refl k) (.bl b)⟩
end
/-! ### == of data -/
mutual
def D.py : D → PyData
  | .non => .none
  | .bl b => .bool b
  | .int i => .int i
  | .str x => .str x
  | .lst ds => .list (pyAll ds)
  | .tup ds => .tuple (pyAll ds)
  | .dic _ => .none
  | .keys _ => .none
  | .tks _ _ => .none
  | .opq _ => .none
  | .tupX xs => .tuple (xs.map PyData.str)
  | .ins _ _ => .none
  | .ty _ => .none
  | .rng _ _ => .none
def pyAll : List D → List PyData
  | [] => []
  | d :: ds => d.py :: pyAll ds
end
mutual
def D.ok : D → Bool
  | .non => true
  | .bl _ => true
  | .int _ => true
  | .str x => PyData.strOk x
  | .lst ds => okAll ds
  | .tup ds => okAll ds
  | .dic _ => false
  | .keys _ => false
  | .tks _ _ => false
  | .opq _ => false
  | .tupX xs => xs.all PyData.strOk
  | .ins _ _ => false
  | .ty _ => false
  | .rng _ _ => false
def okAll : List D → Bool
  | [] => true
  | d :: ds => d.ok && okAll ds
end
theorem dp_strs {K : PySem.W.Frag} {S : Hp} : ∀ xs : List Str, DpAll K S (xs.map V.str) (xs.map PyData.str)
  | [] => .nil
  | x :: xs => .cons (.str x) (dp_strs xs)
theorem lay_strs : ∀ xs : List Str, xs.all PyData.strOk = true → PyData.canLayAll0 (xs.map PyData.str) = true
  | [], _ => by simp only [List.map_nil, PyData.canLayAll0]
  | x :: xs, h => by
    simp only [List.all_cons, Bool.and_eq_true] at h
    simp only [List.map_cons, PyData.canLayAll0, PyData.canLay0, Bool.and_eq_true]
    exact ⟨h.1, lay_strs xs h.2⟩
mutual
theorem At.dp {K : PySem.W.Frag} {S : Hp} : ∀ {v : V} {d : D}, At S v d → d.ok = true → Dp K S v d.py
  | _, _, .non, _ => by simp only [D.py]; exact .non
  | _, _, .bl b, _ => by simp only [D.py]; exact .bl b
  | _, _, .int i, _ => by simp only [D.py]; exact .int i
  | _, _, .str x, _ => by simp only [D.py]; exact .str x
  | _, _, .lst e al, h => by simp only [D.py]; exact .lst (.of e) (AtAll.dp al (by simpa only [D.ok] using h))
  | _, _, .tup e al, h => by simp only [D.py]; exact .tup (.of e) (AtAll.dp al (by simpa only [D.ok] using h))
  | _, _, .dic _ _, h => by simp only [D.ok] at h; cases h
  | _, _, .keys _ _, h => by simp only [D.ok] at h; cases h
  | _, _, .tks _ _ _, h => by simp only [D.ok] at h; cases h
  | _, _, .opq _, h => by simp only [D.ok] at h; cases h
  | _, _, .tupX e _ _, _ => by simp only [D.py]; exact .tup (.inl (.inr ⟨_, e⟩)) (dp_strs _)
  | _, _, .ins _ _, h => by simp only [D.ok] at h; cases h
  | _, _, .ty _, h => by simp only [D.ok] at h; cases h
  | _, _, .rng _, h => by simp only [D.ok] at h; cases h
theorem AtAll.dp {K : PySem.W.Frag} {S : Hp} : ∀ {vs : List V} {ds : List D}, AtAll S vs ds → okAll ds = true → DpAll K S vs (pyAll ds)
  | _, _, .nil, _ => by simp only [pyAll]; exact .nil
  | _, _, .cons h t, e => by
    simp only [okAll, Bool.and_eq_true] at e
    simp only [pyAll]
    exact .cons (At.dp h e.1) (AtAll.dp t e.2)
end
mutual
theorem ok_lay : ∀ d : D, d.ok = true → d.py.canLay0 = true
  | .non, _ => by simp only [D.py, PyData.canLay0]
  | .bl b, _ => by simp only [D.py, PyData.canLay0]
  | .int i, _ => by simp only [D.py, PyData.canLay0]
  | .str x, h => by simp only [D.py, PyData.canLay0]; simpa only [D.ok] using h
  | .lst ds, h => by simp only [D.py, PyData.canLay0]; exact okAll_lay ds (by simpa only [D.ok] using h)
  | .tup ds, h => by simp only [D.py, PyData.canLay0]; exact okAll_lay ds (by simpa only [D.ok] using h)
  | .dic _, h => by simp only [D.ok] at h; cases h
  | .keys _, h => by simp only [D.ok] at h; cases h
  | .tks _ _, h => by simp only [D.ok] at h; cases h
  | .opq _, h => by simp only [D.ok] at h; cases h
  | .tupX xs, h => by simp only [D.py, PyData.canLay0]; exact lay_strs xs (by simpa only [D.ok] using h)
  | .ins _ _, h => by simp only [D.ok] at h; cases h
  | .ty _, h => by simp only [D.ok] at h; cases h
  | .rng _ _, h => by simp only [D.ok] at h; cases h
theorem okAll_lay : ∀ ds : List D, okAll ds = true → PyData.canLayAll0 (pyAll ds) = true
  | [], _ => by simp only [pyAll, PyData.canLayAll0]
  | d :: ds, h => by
    simp only [okAll, Bool.and_eq_true] at h
    simp only [pyAll, PyData.canLayAll0, Bool.and_eq_true]
    exact ⟨ok_lay d h.1, okAll_lay ds h.2⟩
end
/-- fit for == -/
structure Eqb (d : D) : Prop where
  ok : d.ok = true
  dep : d.py.depth ≤ 64
theorem Eqb.shaped {d : D} (h : Eqb d) : SeqAt.shaped d.py = true := by
  show (d.py.canLay0 && decide (d.py.depth ≤ 64)) = true
  rw [ok_lay d h.ok, decide_eq_true h.dep] <;> rfl
section
variable {Γ : Gam} {K : PySem.W.Frag} {a b : D}
theorem Dp.up {S H : Hp} {v : V} {d : D} (h : At S v d) (e : Ex S H) (k : d.ok = true) : Dp K H v d.py := (h.mono e).dp k
theorem rd_eqD (ha : Eqb a) (hb : Eqb b) : RD2 Γ (rEqD K) a b (.bl (PyData.eqv a.py b.py)) := fun x y S H h1 h2 k Q q =>
  ⟨_, _, CW.Dp.up h1 k.ex ha.ok, CW.Dp.up h2 k.ex hb.ok, ha.shaped, hb.shaped, q _ S H (.refl k) (.bl _)⟩
theorem rd_neD (ha : Eqb a) (hb : Eqb b) : RD2 Γ (rNeD K) a b (.bl (!PyData.eqv a.py b.py)) := fun x y S H h1 h2 k Q q =>
  ⟨_, _, CW.Dp.up h1 k.ex ha.ok, CW.Dp.up h2 k.ex hb.ok, ha.shaped, hb.shaped, q _ S H (.refl k) (.bl _)⟩
end
end CW
/-! W4 -/
/-! W4: the text, the facts, calls of known defs. -/
namespace CW
open PySem PySem.Spec PyProof.Rows L2
abbrev topS (i : Nat) : Stmt := PySem.Challenge.pw_crossties_k17_whole_crowd_trees_told.main.body.getD i (.Pass ⟨0, 0, 0, 0⟩)
abbrev mapS (j : Nat) : Stmt := inClass (topS 30) j
/-- the built-in names that stand as they were -/
structure Bf (mg : Str → Option Value) : Prop where
  all : mg "all" = none
  any : mg "any" = none
  len : mg "len" = none
  range : mg "range" = none
  list : mg "list" = none
  tuple : mg "tuple" = none
  sorted : mg "sorted" = none
  enumerate : mg "enumerate" = none
  isinstance : mg "isinstance" = none
  str : mg "str" = none
  int : mg "int" = none
  bool : mg "bool" = none
  sum : mg "sum" = none
  zip : mg "zip" = none
  set : mg "set" = none
  max : mg "max" = none
  abs : mg "abs" = none
  super : mg "super" = none
abbrev FnP (K : PySem.W.Frag) (x qual : Str) (st : Stmt) (f : Addr) (fd : FuncData) : Prop := FunD K x qual (defArgs st) (defBody st) (defScope st) [] [] f fd
/-- a def of the top and its promise -/
structure Has (P : Program) (w : World) (K : PySem.W.Frag) (mg : Str → Option Value) (base : Heap) (x : Str) (ps : List Str) (k : Nat) (sp : Sp) : Prop where
  ex : ∃ f fd, FnOk P w K mg base CX0 k f fd ps sp ∧ mg x = some (.ref f) ∧ PySem.W.keepIn K (.ref f) = true ∧ Binds K fd ps []
structure HasM (P : Program) (w : World) (K : PySem.W.Frag) (mg : Str → Option Value) (base : Heap) (C : Addr) (m : Str) (ps : List Str) (k : Nat) (sp : Sp) : Prop where
  ex : ∃ f fd, FnOk P w K mg base CX0 k f fd ps sp ∧ Meth K C m f ∧ Binds K fd ps []
section
variable {X : Cx} {k j : Nat} {ps : List Str} {sp : Sp} {x m : Str} {p pos apos : Pos} {e o : Expr} {es : List Expr} {ta : TE} {t : TA} {C : Addr}
theorem pe_h (h : Has X.prog X.w X.K X.mg X.base x ps k sp) (hr : Room j X.A) (ha : PA X (e :: es) t) (le : Nat.ble k j = true := by rfl) (hg : Gl X x := by rfl) (hdb : (x == ("__debug__" : Str)) = false := by decide)
    (he : starEach (e :: es) X.env = (false, eval e X.env) :: starEach es X.env := by rfl) (hpl : (backTo pos (starEach es X.env)).any (·.1) = false := by rfl) : PE X (.Call (.Name x p) (e :: es) [] pos) (tCall sp [] E0 t) := by
  obtain ⟨f, fd, F, m, kp, b⟩ := h.ex
  exact pe_call F (hr.mono (Nat.le_of_ble_eq_true le)) hg m kp b .nil pass0 ha hdb he hpl
theorem pe_hm {pl : Sem Bool} (h : HasM X.prog X.w X.K X.mg X.base C m ps k sp) (c : Cls X.K C) (hr : Room j X.A) (ho : PE X o ta) (ha : PA X (e :: es) t) (le : Nat.ble k j = true := by rfl) (hst : starEach (e :: es) X.env = (false, eval e X.env) :: starEach es X.env := by rfl) (hpl : (backTo pos (starEach es X.env)).any (·.1) = false := by rfl) (ht : eval (.Call (.Attribute o m apos) (e :: es) [] pos) X.env = (do
      let ov ← eval o X.env
      standAt apos.atName
      let (f, first) ← holding [ov] (getMethod ov m pl)
      callWith pos f first (backTo pos (starEach (e :: es) X.env)) (backToKw pos (keywordEach [] X.env))) := by rfl) : PE X (.Call (.Attribute o m apos) (e :: es) [] pos) (tMeth C m sp [] E0 ta t) := by
  obtain ⟨f, fd, F, m, b⟩ := h.ex
  exact pe_meth ho c m F (hr.mono (Nat.le_of_ble_eq_true le)) b .nil pass0 ha hst hpl ht
end
theorem Has.of {P : Program} {w : World} {K : PySem.W.Frag} {mg : Str → Option Value} {base : Heap} {x : Str} {ps : List Str} {k : Nat} {sp : Sp} {st : Stmt} {f : Addr} {fd : FuncData} (F : FnP K x x st f fd) (hm : mg x = some (.ref f)) (G : FnOk P w K mg base CX0 k f fd ps sp)
    (h : ∀ (kV doc pm : Value) (an : Option Addr) (cdv ct : Value) (us : List Value), us.length = ps.length → bindArgs (PySem.W.fnOf x x (defArgs st) (defBody st) (defScope st) .none kV doc pm an cdv ct) ⟨us, []⟩ = pure (ps.zip us)) : Has P w K mg base x ps k sp :=
  ⟨f, fd, G, hm, F.kp, F.bindsN h⟩
/-- a body from its start: it hands back d, or comes to its end and d is None -/
def SvE (Γ : Gam) (t : TS) (ρ : Rho) (d : D) : Prop := SvD Γ t ρ [] (.rt d) ∨ (d = .non ∧ ∃ ρ' μ', SvD Γ t ρ [] (.nx ρ' μ'))
/-- a body as data: the promise -/
theorem fn_ok {P : Program} {w : World} {K : PySem.W.Frag} {mg : Str → Option Value} {base : Heap} {x qual : Str} {N ps : List Str} {k : Nat} {st : Stmt} {f : Addr} {fd : FuncData} {Γ : Gam} {R : List D → D → Prop} (F : FnP K x qual st f fd) (S : FnScope N ps (defScope st))
    (hl : ∀ as d, R as d → as.length = ps.length)
    (hb : ∀ (cdv : Value) (A : Around) (outer : List Env) (s : Shared) (H : Hp) (E : XK), Room k (A.deeper (envOfC qual (defScope st) s.heap.objs.size f cdv)) → ∃ t, PSs (cxOf CX0 P w K mg base N qual (defScope st) f cdv A outer s H E).nox (defBody st) t ∧
      ∀ as d, R as d → SvE Γ t (as.map some ++ List.replicate (N.length - as.length) none) d) : FnOk P w K mg base CX0 (k + 1) f fd ps (spF Γ R) := by
  refine F.ok S (fun vs H Q E h => ?_) fun cdv A outer s H vs Q E hr h => ?_
  · obtain ⟨as, d, S', _, al, r, _⟩ := h
    rw [al.length]; exact hl as d r
  · obtain ⟨t, ht, hv⟩ := hb cdv A outer s H E hr
    obtain ⟨as, d, S', k', al, r, q⟩ := h
    refine ⟨t, ht.nox, ?_⟩
    have e : L2.start N vs = vs.map some ++ List.replicate (N.length - as.length) none := by unfold L2.start; rw [al.length]
    rw [e]
    rcases hv as d r with hv | ⟨rfl, ρ', μ', hv⟩
    · exact hv S' H S' S' H _ k' (.refl k') (Ex.refl _) (sl_start al) .nil _ fun v S2 H2 n a => q v S2 H2 n a
    · exact hv S' H S' S' H _ k' (.refl k') (Ex.refl _) (sl_start al) .nil _ fun σ' S2 H2 n _ _ _ => q .non S2 H2 n .non
theorem SvD.e {Γ : Gam} {t : TS} {ρ : Rho} {d : D} (h : SvD Γ t ρ [] (.rt d)) : SvE Γ t ρ d := .inl h
theorem sv_end {Γ : Gam} {t : TS} {ρ ρ' : Rho} {μ' : Mus} (h : SvD Γ t ρ [] (.nx ρ' μ')) : SvE Γ t ρ .non := .inr ⟨rfl, ρ', μ', h⟩
/-- the same of a new object -/
def spN (Γ : Gam) (R : List D → D → Prop) : Sp := fun vs H Q _ => ∃ (as : List D) (d : D) (S : Hp), Ok Γ S H ∧ AtAll S vs as ∧ R as d ∧ ∀ p S2 H2 o, Nx Γ S H S2 H2 → H p = none → S2 p = none → H2 p = some o → AtO S2 o d → Q (.ref p) H2
theorem fn_okN {P : Program} {w : World} {K : PySem.W.Frag} {mg : Str → Option Value} {base : Heap} {x qual : Str} {N ps : List Str} {k : Nat} {st : Stmt} {f : Addr} {fd : FuncData} {Γ : Gam} {R : List D → D → Prop} (F : FnP K x qual st f fd) (S : FnScope N ps (defScope st))
    (hl : ∀ as d, R as d → as.length = ps.length)
    (hb : ∀ (cdv : Value) (A : Around) (outer : List Env) (s : Shared) (H : Hp) (E : XK), Room k (A.deeper (envOfC qual (defScope st) s.heap.objs.size f cdv)) → ∃ t, PSs (cxOf CX0 P w K mg base N qual (defScope st) f cdv A outer s H E).nox (defBody st) t ∧
      ∀ as d, R as d → SvD Γ t (as.map some ++ List.replicate (N.length - as.length) none) [] (.rn d)) : FnOk P w K mg base CX0 (k + 1) f fd ps (spN Γ R) := by
  refine F.ok S (fun vs H Q E h => ?_) fun cdv A outer s H vs Q E hr h => ?_
  · obtain ⟨as, d, S', _, al, r, _⟩ := h
    rw [al.length]; exact hl as d r
  · obtain ⟨t, ht, hv⟩ := hb cdv A outer s H E hr
    obtain ⟨as, d, S', k', al, r, q⟩ := h
    refine ⟨t, ht.nox, ?_⟩
    have e : L2.start N vs = vs.map some ++ List.replicate (N.length - as.length) none := by unfold L2.start; rw [al.length]
    rw [e]
    exact hv as d r S' H S' S' H _ k' (.refl k') (Ex.refl _) (sl_start al) .nil _ fun p S2 H2 o n h0 hs ho a => q p S2 H2 o n h0 hs ho a
section
variable {Γ : Gam} {ρ : Rho} {R : List D → D → Prop} {d : D} {E : XK} {t : TA} {ta : TE} {as : List D} {C : Addr} {m : Str} {fs : List (Str × D)}
theorem en_call (ha : AvD Γ t ρ as) (hr : R as d) : EvN Γ (tCall (spN Γ R) [] E t) ρ d := fun σ S H s o Q q => ha σ S H s o _ fun vs S1 H1 n h1 =>
  ⟨as, d, S1, n.ok, by rw [List.append_nil]; exact h1, hr, fun p S2 H2 o m h0 hs ho a => q p S2 H2 o (n.trans m) (live_of n h0) hs ho a⟩
theorem en_call0 (ha : AvD Γ t ρ as) (hr : R as d) : EvN Γ (tCall (spN G0 R) [] E t) ρ d := fun σ S H s o Q q => ha σ S H s o _ fun vs S1 H1 n h1 =>
  ⟨as, d, S1, n.ok.g0, by rw [List.append_nil]; exact h1, hr, fun p S2 H2 o m h0 hs ho a => q p S2 H2 o (n.trans (.of_g0 n.ok m)) (live_of n h0) hs ho a⟩
theorem en_meth0 (ho : EvD Γ ta ρ (.ins C fs)) (hm : fs.lookup m = none) (ha : AvD Γ t ρ as) (hr : R (.ins C fs :: as) d) : EvN Γ (tMeth C m (spN G0 R) [] E ta t) ρ d := fun σ S H s o Q q =>
  ho σ S H s o _ fun x S1 H1 n1 h1 => by
    cases h1 with
    | ins e f =>
      refine ⟨_, _, _, rfl, n1.ok.ex _ _ e, f.look_none hm, ha σ S1 H1 (s.mono n1.ex) n1.ok _ fun vs S2 H2 n2 h2 => ⟨.ins C fs :: as, d, S2, n2.ok.g0, ?_, hr, fun p S3 H3 o m h0 hs ho a => q p S3 H3 o ((n1.trans n2).trans (.of_g0 n2.ok m)) (live_of n1 (live_of n2 h0)) hs ho a⟩⟩
      rw [List.append_nil]
      exact .cons ((At.ins e f).mono n2.ex) h2
end
section
variable {X : Cx} {k j : Nat} {ps : List Str} {sp : Sp} {x m : Str} {p pos apos : Pos} {e o : Expr} {es : List Expr} {ta : TE} {t : TA} {C : Addr}
theorem pe_hm0 {pl : Sem Bool} (h : HasM X.prog X.w X.K X.mg X.base C m ps k sp) (c : Cls X.K C) (hr : Room j X.A) (ho : PE X o ta) (le : Nat.ble k j = true := by rfl) (ht : eval (.Call (.Attribute o m apos) [] [] pos) X.env = (do
      let ov ← eval o X.env
      standAt apos.atName
      let (f, first) ← holding [ov] (getMethod ov m pl)
      callWith pos f first (backTo pos (starEach [] X.env)) (backToKw pos (keywordEach [] X.env))) := by rfl) : PE X (.Call (.Attribute o m apos) [] [] pos) (tMeth C m sp [] E0 ta tNil) := by
  obtain ⟨f, fd, F, m, b⟩ := h.ex
  exact pe_meth0 ho c m F (hr.mono (Nat.le_of_ble_eq_true le)) b .nil pass0 ht
end
/-! ### rules by the written part's own letter -/
section
variable {X : Cx}
theorem pe_globS {x z : Str} {t : Tok} {q : Pos} (hm : X.mg x = some (.str z t)) (hg : Gl X x := by rfl) (hd : (x == ("__debug__" : Str)) = false := by decide) : PE X (.Name x q) (tC (.str z)) := pe_glob (v := .str z) hg hm ⟨t, rfl⟩ hd
theorem w_in (K : PySem.W.Frag) (h : X.K = K := by rfl) : OpR X (compareOp .In) (rIn K false) := h ▸ op_in_seq
theorem w_nin (K : PySem.W.Frag) (h : X.K = K := by rfl) : OpR X (compareOp .NotIn) (rIn K true) := h ▸ op_notIn_seq
theorem w_ixL (K : PySem.W.Frag) (h : X.K = K := by rfl) : IxR X (rIxL K) := h ▸ ix_list
theorem w_ixT (K : PySem.W.Frag) (h : X.K = K := by rfl) : IxR X (rIxT K) := h ▸ ix_tup
theorem w_slL (K : PySem.W.Frag) (h : X.K = K := by rfl) : SlR X (rSlL K) := h ▸ sl_list
theorem w_slT (K : PySem.W.Frag) (h : X.K = K := by rfl) : SlR X (rSlA K) := h ▸ sl_tupA
theorem w_catT (K : PySem.W.Frag) (h : X.K = K := by rfl) : OpR X (binaryOp .Add) (rCatA K) := h ▸ op_catA
theorem w_eqD (K : PySem.W.Frag) {j : Nat} (hr : Room j X.A) (h : X.K = K := by rfl) : OpR X (compareOp .Eq) (rEqD K) := h ▸ op_eqD hr.units
theorem w_neD (K : PySem.W.Frag) {j : Nat} (hr : Room j X.A) (h : X.K = K := by rfl) : OpR X (compareOp .NotEq) (rNeD K) := h ▸ op_neD hr.units
def rLenS (K : PySem.W.Frag) : List V → Hp → VK → Prop := fun us H Q => ∃ a ws, us = [.ref a] ∧ (SqL K H a ws ∨ SqT K H a ws) ∧ Q (.int ws.length) H
def rListS (K : PySem.W.Frag) : List V → Hp → VK → Prop := fun us H Q => ∃ a ws, us = [.ref a] ∧ (SqL K H a ws ∨ SqT K H a ws) ∧ ∀ l, H l = none → Q (.ref l) (upd H l (.lst ws))
def rTupS (K : PySem.W.Frag) : List V → Hp → VK → Prop := fun xs H Q => ∃ p ys, xs = [.ref p] ∧ ((SqL K H p ys ∧ ∀ l, H l = none → Q (.ref l) (upd H l (.tup ys))) ∨ (SqT K H p ys ∧ Q (.ref p) H))
variable {p pos : Pos} {e : Expr} {es : List Expr} {t : TA} {te : TE} {tg : Expr}
theorem w_len (K : PySem.W.Frag) (B : Bf X.mg) (ha : PA X [e] t) (h : X.K = K := by rfl) (hg : Gl X "len" := by rfl) (he : starEach (e :: []) X.env = (false, eval e X.env) :: starEach [] X.env := by rfl) (hpl : (backTo pos (starEach [] X.env)).any (·.1) = false := by rfl) :
    PE X (.Call (.Name "len" p) [e] [] pos) (tCB (rLenS K) t) := h ▸ pe_callB call_len_seq hg B.len PySem.boot_len ha (by decide) (by decide) he hpl
theorem w_all (K : PySem.W.Frag) (B : Bf X.mg) (ha : PA X [e] t) (hc : X.calm = true := by rfl) (h : X.K = K := by rfl) (hg : Gl X "all" := by rfl) (he : starEach (e :: []) X.env = (false, eval e X.env) :: starEach [] X.env := by rfl) (hpl : (backTo pos (starEach [] X.env)).any (·.1) = false := by rfl) :
    PE X (.Call (.Name "all" p) [e] [] pos) (tCB (rAll K) t) := h ▸ pe_callB (cr_all hc) hg B.all (by decide +kernel) ha (by decide) (by decide) he hpl
theorem w_any (K : PySem.W.Frag) (B : Bf X.mg) (ha : PA X [e] t) (hc : X.calm = true := by rfl) (h : X.K = K := by rfl) (hg : Gl X "any" := by rfl) (he : starEach (e :: []) X.env = (false, eval e X.env) :: starEach [] X.env := by rfl) (hpl : (backTo pos (starEach [] X.env)).any (·.1) = false := by rfl) :
    PE X (.Call (.Name "any" p) [e] [] pos) (tCB (rAny K) t) := h ▸ pe_callB (cr_any hc) hg B.any (by decide +kernel) ha (by decide) (by decide) he hpl
theorem w_sum (K : PySem.W.Frag) (B : Bf X.mg) (ha : PA X [e] t) (hc : X.calm = true := by rfl) (h : X.K = K := by rfl) (hg : Gl X "sum" := by rfl) (he : starEach (e :: []) X.env = (false, eval e X.env) :: starEach [] X.env := by rfl) (hpl : (backTo pos (starEach [] X.env)).any (·.1) = false := by rfl) :
    PE X (.Call (.Name "sum" p) [e] [] pos) (tCB (rSum K) t) := h ▸ pe_callB (cr_sum hc) hg B.sum (by decide +kernel) ha (by decide) (by decide) he hpl
theorem w_list (K : PySem.W.Frag) (B : Bf X.mg) (ha : PA X [e] t) (h : X.K = K := by rfl) (hg : Gl X "list" := by rfl) (he : starEach (e :: []) X.env = (false, eval e X.env) :: starEach [] X.env := by rfl) (hpl : (backTo pos (starEach [] X.env)).any (·.1) = false := by rfl) :
    PE X (.Call (.Name "list" p) [e] [] pos) (tCB (rListS K) t) := h ▸ pe_callTy call_list_of hg B.list (by decide +kernel) ha (by decide) (by decide) he hpl
theorem w_tuple (K : PySem.W.Frag) (B : Bf X.mg) (ha : PA X [e] t) (h : X.K = K := by rfl) (hg : Gl X "tuple" := by rfl) (he : starEach (e :: []) X.env = (false, eval e X.env) :: starEach [] X.env := by rfl) (hpl : (backTo pos (starEach [] X.env)).any (·.1) = false := by rfl) :
    PE X (.Call (.Name "tuple" p) [e] [] pos) (tCB (rTupS K) t) := h ▸ pe_callTy call_tuple_of hg B.tuple (by decide +kernel) ha (by decide) (by decide) he hpl
theorem w_isi (K : PySem.W.Frag) (B : Bf X.mg) {e2 : Expr} (ha : PA X [e, e2] t) (h : X.K = K := by rfl) (hg : Gl X "isinstance" := by rfl) (he : starEach [e, e2] X.env = (false, eval e X.env) :: starEach [e2] X.env := by rfl) (hpl : (backTo pos (starEach [e2] X.env)).any (·.1) = false := by rfl) :
    PE X (.Call (.Name "isinstance" p) [e, e2] [] pos) (tCB (rIsi K) t) := h ▸ pe_callB call_isi hg B.isinstance (by decide +kernel) ha (by decide) (by decide) he hpl
theorem w_isiT (K : PySem.W.Frag) (B : Bf X.mg) {e2 : Expr} (ha : PA X [e, e2] t) (h : X.K = K := by rfl) (hg : Gl X "isinstance" := by rfl) (he : starEach [e, e2] X.env = (false, eval e X.env) :: starEach [e2] X.env := by rfl) (hpl : (backTo pos (starEach [e2] X.env)).any (·.1) = false := by rfl) :
    PE X (.Call (.Name "isinstance" p) [e, e2] [] pos) (tCB (rIsiT K) t) := h ▸ pe_callB call_isiT hg B.isinstance (by decide +kernel) ha (by decide) (by decide) he hpl
theorem w_star (K : PySem.W.Frag) {q : Pos} (he : PE X e te) (hr : PA X es t) (h : X.K = K := by rfl) (hs : starEach (.Starred e q :: es) X.env = (true, eval e X.env) :: starEach es X.env := by rfl) : PA X (.Starred e q :: es) (StX.tStar K te t) := h ▸ StX.pa_star he hr hs
theorem w_piL (K : PySem.W.Frag) (he : PE X e te) (h : X.K = K := by rfl) : PI X tg e (iList K te) := h ▸ pi_list he
theorem w_piT (K : PySem.W.Frag) (he : PE X e te) (h : X.K = K := by rfl) : PI X tg e (iTup K te) := h ▸ pi_tup he
theorem w_fld (K : PySem.W.Frag) {f : Str} (he : PE X e te) (h : X.K = K := by rfl) (hb : attributeBase e f X.env (eval e X.env) = eval e X.env := by rfl) : PE X (.Attribute e f pos) (tFld K te f) := h ▸ pe_fld he hb
end
/-- an iterable that is a list or a tuple -/
def iSeq (K : PySem.W.Frag) (tl : TE) : TI := fun σ H R => iList K tl σ H R ∨ iTup K tl σ H R
theorem pi_seq {X : Cx} {tg l : Expr} {tl : TE} (hl : PE X l tl) : PI X tg l (iSeq X.K tl) := ⟨fun pins s σ H R I h => by
  rcases h with h | h
  · exact (pi_list hl).run pins s σ H R I h
  · exact (pi_tup hl).run pins s σ H R I h⟩
theorem w_piS {X : Cx} {tg e : Expr} {te : TE} (K : PySem.W.Frag) (he : PE X e te) (h : X.K = K := by rfl) : PI X tg e (iSeq K te) := h ▸ pi_seq he
theorem wv_seqL {Γ : Gam} {ρ : Rho} {tl : TE} {ds : List D} {K : PySem.W.Frag} (h : EvD Γ tl ρ (.lst ds)) : WvD Γ (iSeq K tl) ρ ds := fun σ S H s k R q => .inl (wv_list h σ S H s k R q)
theorem wv_seqT {Γ : Gam} {ρ : Rho} {tl : TE} {ds : List D} {K : PySem.W.Frag} (h : EvD Γ tl ρ (.tup ds)) : WvD Γ (iSeq K tl) ρ ds := fun σ S H s k R q => .inr (wv_tup h σ S H s k R q)
end CW
/-! E1 -/
/-! E1: rules that the layer lacks: enumerate of a tuple, ranges as values walked, not in a range. -/
namespace PySem
open AutoSeq1 (wpAny_loadPart')
theorem eoT_new (tt : Addr) (its : Array Value) (m : Nat) (dd : Option Addr) (ss : Array (Option Value)) :
    Meets (Builtin.«enumerate.__new__» ⟨[.type "enumerate", .ref tt], []⟩) (fun _ R s => s.heap.get? tt = some { cls := .type "tuple", dict := dd, data := .seq its m, slots := ss } ∧
      R (.ok (.ret (.ref (s.heap.push { cls := .type "tuple_iterator", data := .fields #[.ref tt, .int 0 0] }).objs.size)))
        { s with heap := (s.heap.push { cls := .type "tuple_iterator", data := .fields #[.ref tt, .int 0 0] }).push { cls := .type "enumerate", data := .fields #[.none, .bool false, .ref s.heap.objs.size, rawInt 0, .none, .none] } }) :=
  .of_wp fun prog w A R s h => by
    obtain ⟨hp, g, d, tk, os⟩ := s
    obtain ⟨ht, hR⟩ := h
    have fs := sub_enumerate
    have hT : Heap.IsTuple (Shared.heap ⟨hp, g, d, tk, os⟩) tt its := ⟨_, ht, rfl, m, rfl⟩
    wp_walk using wpAny_loadPart' ht
    refine wpAny_stack_any fun stk => wpAny_pure ?_
    split
    · rename_i cc _ _ _ _ _
      cases (cc == Value.type "enumerate") <;> (wp_walk using wpAny_loadPart' ht, wpAny_pyIter_tuple hT; exact ⟨_, rfl, hR⟩)
    · wp_walk using wpAny_loadPart' ht, wpAny_pyIter_tuple hT
      exact ⟨_, rfl, hR⟩
section
variable {prog : Program} {w : World} {A : Around} {E : Value → Shared → Prop} {s : Shared}
theorem eoT_call {tt : Addr} {its : Array Value} {Q : Value → Shared → Prop} (hT : s.heap.IsTuple tt its)
    (h : ∀ g, IsEnum g (s.heap.objs.size + 1) s.heap.objs.size 0 .none → g.IsTupleIter s.heap.objs.size tt 0 → g.objs.size = s.heap.objs.size + 2 → (∀ b o, s.heap.get? b = some o → g.get? b = some o) → Q (.ref (s.heap.objs.size + 1)) { s with heap := g }) :
    wpAny (model prog w) A (call (.type "enumerate") [.ref tt]) Q E s := by
  obtain ⟨⟨c, dct, dt, sl⟩, ht, hc, m, hd⟩ := hT
  obtain rfl : c = .type "tuple" := hc
  obtain rfl : dt = .seq its m := hd
  have z1 : (s.heap.push { cls := .type "tuple_iterator", data := .fields #[.ref tt, .int 0 0] }).objs.size = s.heap.objs.size + 1 := Heap.size_push ..
  have he : IsEnum ((s.heap.push { cls := .type "tuple_iterator", data := .fields #[.ref tt, .int 0 0] }).push { cls := .type "enumerate", data := .fields #[.none, .bool false, .ref s.heap.objs.size, rawInt 0, .none, .none] }) (s.heap.objs.size + 1) s.heap.objs.size 0 .none := by
    have q := Heap.get?_push_size (s.heap.push { cls := .type "tuple_iterator", data := .fields #[.ref tt, .int 0 0] }) (o := { cls := .type "enumerate", data := .fields #[.none, .bool false, .ref s.heap.objs.size, rawInt 0, .none, .none] }) rfl
    rw [z1] at q
    exact q
  refine callType_new F.called_enumerate (by decide) (F.typeCall_enumerate_1 _) (F.newCall_enumerate_1 _) (fun obj => F.args_object_init_2 obj _) F.entry_enumerate_new (eoT_new tt its m dct sl) ⟨ht, ?_⟩
  show _ ∧ _
  rw [z1]
  refine ⟨⟨_, he, rfl⟩, h _ he ⟨_, Heap.get?_push_of_some _ (Heap.get?_push_size _ rfl), rfl, rfl⟩ (by rw [Heap.size_push, z1]) fun b o e => Heap.get?_push_of_some _ (Heap.get?_push_of_some _ e)⟩
end
end PySem
namespace L2
open PySem PySem.Spec PyProof.Rows
/-- the tuple at a, each item in a new pair with its number -/
def IteT (K : PySem.W.Frag) (a : Addr) : It :=
  ⟨fun i H => ∃ (ys : List V) (y : V), SqT K H a ys ∧ ys[i]? = some y, fun i H v H' => ∃ T y, v = .ref T ∧ H T = none ∧ H' = upd H T (.tup [.int (i : Nat), y]) ∧ ∀ ys, SqT K H a ys → ys[i]? = some y, fun i H => ∃ ys : List V, SqT K H a ys ∧ ys.length ≤ i⟩
theorem isTup_tuple {h : Heap} {a : Addr} {its : Array Value} (t : IsTup h a its) : h.IsTuple a its := t
theorem turn_enumT {P : Program} {w : World} {K : PySem.W.Frag} {elts : List Expr} {kk : Nat} {tpos : Pos} (a e it : Addr) (its : Array Value) (hat : a ≠ it) (hea : e ≠ a) :
    Turn P w K (.Tuple elts kk tpos) (IteT K a) [e, it] e (fun i h => (∃ old, IsEnum h e it ((i : Nat) : Int) old) ∧ h.IsTupleIter it a i ∧ e ≠ it) where
  mem := by simp
  obj := fun i h st b hb => by
    obtain ⟨⟨old, he⟩, ⟨o, ho, hc, hd⟩, _⟩ := st
    have e' : b = e ∨ b = it := by simpa using hb
    rcases e' with rfl | rfl
    · exact ⟨_, he, fun v q => nomatch q⟩
    · exact ⟨o, ho, fun v q => by rw [hd] at q; cases q⟩
  keep := fun i h h' st k => by
    obtain ⟨⟨old, he⟩, hi, hne⟩ := st
    exact ⟨⟨old, k e (by simp) _ he⟩, hi.at fun o q => k it (by simp) o q, hne⟩
  item := by
    intro X hP hw hK hc i pins s σ H E I hf st hg
    subst hP hw hK
    obtain ⟨⟨old, he⟩, hit, hne⟩ := st
    obtain ⟨ys, y, hq, hy⟩ := hg
    obtain ⟨us, rv, tp, hz⟩ := I.tuple hq
    obtain ⟨u, hu, ru⟩ := rv.get hy
    have hel : e < s.heap.objs.size := Heap.lt_size he
    have hil : it < s.heap.objs.size := by obtain ⟨_, there, _⟩ := hit; exact Heap.lt_size there
    have hlen : i < us.toArray.size := by
      have := (List.getElem?_eq_some_iff.mp hu).1
      simpa using this
    have hei : e ∉ [it, a] := by simp [hne, hea]
    refine wpAny_pyNext_enum_itemD (Draws.tuple (A := X.A.in1) (I.ok.hd hc) it a hat us.toArray) he ⟨hit, isTup_tuple tp⟩ hlen hne hei fun x h' tk hx ho hst hT hsz hk => ?_
    have ex : x = u := by
      have h1 : us.toArray[i]? = some x := hx
      have h2 : us.toArray[i]? = some u := by simpa using hu
      rw [h2] at h1; exact (Option.some.inj h1).symm
    subst ex
    refine ⟨_, rfl, wpAny_letOwnedTupleGo_enum (s := { s with heap := h', toks := tk + 1 }) ho fun h'' he' sb => ?_⟩
    have hT2 : h''.get? s.heap.objs.size = some { cls := .type "tuple", data := .seq #[.int i tk, x] } := (sb.2 _ (Nat.ne_of_gt hel)).trans hT
    have new : ObjOk X.prog X.w (upd H s.heap.objs.size (.tup [.int (i : Nat), y])) h'' s.heap.objs.size (.tup [.int (i : Nat), y]) :=
      ⟨by show 2 ≤ sizeLine; decide, [.int i tk, x], .cons ⟨_, rfl⟩ (.cons ru .nil), ⟨_, hT2, rfl, _, rfl⟩⟩
    have I1 : Inv X pins σ (upd H s.heap.objs.size (.tup [.int (i : Nat), y])) { s with heap := h'', toks := tk + 1 } :=
      I.turnedNew (ch := [e, it]) (fun b u nb q => (sb.2 b fun z => nb (by simp [z])).trans (hk b u (fun z => nb (by simp [z])) (fun z => nb (by simp [z])) q)) hf (Nat.le_refl _) new
    refine ⟨.ref s.heap.objs.size, _, I1, rfl, ⟨_, y, rfl, I.hok.fresh (Nat.le_refl _), rfl, fun zs hzs => by rw [I.tuple_inj hzs hq]; exact hy⟩, ⟨⟨x, ?_⟩, hst.1.at fun o q => (sb.2 it (Ne.symm hne)).trans q, hne⟩, fun b hb => ?_⟩
    · have e1 : ((i + 1 : Nat) : Int) = (i : Int) + 1 := by omega
      rw [e1]; exact he'
    · have hb' : b < s.heap.objs.size := by
        have e' : b = e ∨ b = it := by simpa using hb
        rcases e' with rfl | rfl
        · exact hel
        · exact hil
      rw [upd_ne (Nat.ne_of_lt hb')]
      exact (hf b hb).1
  done := by
    intro X hP hw hK hc i pins s σ H E I hf st hg
    subst hP hw hK
    obtain ⟨⟨old, he⟩, hit, hne⟩ := st
    obtain ⟨ys, hq, hl⟩ := hg
    obtain ⟨us, rv, tp, hz⟩ := I.tuple hq
    obtain ⟨f0, f1, f2, f3, f4, f5⟩ := hf it (by simp)
    have hlen := rv.length
    have hT : s.TypeIs (.ref e) "enumerate" := ⟨_, he, rfl⟩
    unfold pyNext
    refine wpAny_bind (wpAny_attempt (wpAny_callSpecial?_slot (name := Str.ofString "__next__") hT F.slot_enumerate_next (wpAny_call_entry F.slot_enumerate_next hT F.entry_enumerate_next ?_ (F.args_enumerate_next_1 _))))
    show wpAny _ _ (field (.ref e) 2 >>= _) _ _ _
    refine wpAny_bind (wpAny_field he rfl (x := .ref it) rfl ?_)
    refine wpAny_bind (wpAny_nextOf_tuple_end (I.ok.hd hc) hit (isTup_tuple tp) (by simp; omega) fun h' z eb hz' => ?_)
    obtain ⟨o, ho, hcl⟩ := hz'
    refine wpAny_bind (wpAny_isInstance (T := "StopIteration") (b := true) ⟨o, ho, hcl⟩ isSubtype_stop ?_)
    exact wpAny_pure ⟨rfl, I.turned (t' := s.toks) (fun b o hb q => eb b o hb q) f0 f1 f3 f4 f5⟩
  self := fun A i s Q E st h => let ⟨⟨_, at_e⟩, _⟩ := st; wpAny_pyIter_enum at_e h
def iEnumT (K : PySem.W.Frag) (ta : TA) : TI := fun σ H R => ta σ H fun vs H1 => ∃ a ys, vs = [.ref a] ∧ SqT K H1 a ys ∧ R (IteT K a) H1
theorem pi_enumT {X : Cx} {e : Expr} {ta : TA} {p pos tpos : Pos} {elts : List Expr} {kk : Nat} (hg : Gl X "enumerate") (hm : X.mg "enumerate" = none) (ha : PA X [e] ta) (hs : starEach [e] X.env = [(false, eval e X.env)] := by rfl) :
    PI X (.Tuple elts kk tpos) (.Call (.Name "enumerate" p) [e] [] pos) (iEnumT X.K ta) := by
  refine ⟨fun pins s σ H R I h => ?_⟩
  refine Call_ (ld_blt I hg hm boot_enumerate (PyProof.Rows.callWith_type1 (thn (ha.run pos pins s σ H _ I h) fun us s1 ⟨ws, H1, I1, r1, q1⟩ => ?_) hs rfl))
  obtain ⟨a, ys, rfl, hq, q⟩ := q1
  cases r1 with
  | cons r rr =>
    cases rr
    cases r
    obtain ⟨its, rv, tp, hz⟩ := I1.tuple hq
    have hal := (isTup_tuple tp)
    obtain ⟨oa, hoa, _⟩ := id hal
    have halt : a < s1.heap.objs.size := Heap.lt_size hoa
    refine eoT_call hal fun g he hit hsz hk => wpAny_pyIter_enum he ?_
    have I2 : Inv X pins σ H1 { s1 with heap := g } := I1.kept (t' := s1.toks) hk
    refine ⟨s1.heap.objs.size + 1, [s1.heap.objs.size + 1, s1.heap.objs.size], _, _, H1, rfl, I2, turn_enumT a (s1.heap.objs.size + 1) s1.heap.objs.size its.toArray (Nat.ne_of_lt halt) (Nat.ne_of_gt (Nat.lt_succ_of_lt halt)), ⟨⟨.none, he⟩, hit, Nat.succ_ne_self _⟩, fun b hb => ?_, q⟩
    have hle : s1.heap.objs.size ≤ b := by
      have e' : b = s1.heap.objs.size + 1 ∨ b = s1.heap.objs.size := by simp at hb; exact hb
      rcases e' with z | z
      · rw [z]; exact Nat.le_add_right _ _
      · rw [z]; exact Nat.le_refl _
    exact I1.fpOk hle (I1.hok.fresh hle)
/-! ### ranges as values -/
theorem cr_range1 {X : Cx} : CallR X (.type "range") (fun vs H Q => ∃ n, vs = [V.int n] ∧ ∀ p, H p = none → Q (.ref p) (upd H p (.rng 0 n))) := by
  intro pins s σ H vs us Q I r h
  obtain ⟨n, rfl, q⟩ := h
  obtain ⟨u1, rfl, t, rfl⟩ := vals1 r
  refine call_range_1 ⟨.ref s.heap.objs.size, upd H s.heap.objs.size (.rng 0 n), I.laid (t' := s.toks + 1 + 1) (fun b o e => Heap.get?_push_of_some _ e) (Nat.le_refl _) ?_, rfl, q _ (I.hok.fresh (Nat.le_refl _))⟩
  exact ⟨s.toks, t, s.toks + 1, Heap.get?_push_size _ rfl⟩
def iRngV (te : TE) : TI := fun σ H R => te σ H fun v H1 => ∃ a n, v = .ref a ∧ H1 a = some (.rng 0 n) ∧ 0 ≤ n ∧ n < 2 ^ 62 ∧ R (Itr 0 n.toNat) H1
theorem pi_rngV {X : Cx} {tg e : Expr} {te : TE} (he : PE X e te) : PI X tg e (iRngV te) := by
  refine ⟨fun pins s σ H R I h => ?_⟩
  refine thn (he.run pins s σ H _ I h) fun u s1 ⟨v, H1, I1, r1, a, n, ev, ha, h0, h1, q⟩ => ?_
  subst ev
  obtain rfl : u = Value.ref a := r1
  obtain ⟨t1, t2, t3, ho⟩ := I1.hok a _ ha
  refine wpAny_pyIter_range (a := 0) (b := n) (c := 1) ho (small_one (by omega) (by omega) (by omega) h1) ?_
  refine ⟨s1.heap.objs.size, [s1.heap.objs.size], _, _, H1, rfl, I1.kept (t' := s1.toks) fun b o e => Heap.get?_push_of_some _ e, turn_range _ 0 n.toNat, ?_, fun b hb => ?_, q⟩
  · show IsRangeIter _ _ (0 + ((0 : Nat) : Int) * 1) (((n.toNat : Nat) : Int) - ((0 : Nat) : Int)) 1
    have e1 : (0 : Int) + ((0 : Nat) : Int) * 1 = 0 := by simp
    have e2 : ((n.toNat : Nat) : Int) - ((0 : Nat) : Int) = Builtin.Range.rangeSize 0 n 1 := by rw [rangeSize_one]; split <;> omega
    rw [e1, e2]
    exact Heap.get?_push_size _ rfl
  · have e : b = s1.heap.objs.size := by simpa using hb
    subst e
    exact I1.fpOk (Nat.le_refl _) (I1.hok.fresh (Nat.le_refl _))
theorem op_notIn_rng {X : Cx} : OpR X (compareOp .NotIn) (fun x y H Q => ∃ i a lo hi, x = V.int i ∧ y = V.ref a ∧ H a = some (.rng lo hi) ∧ Q (.bl (!decide (lo ≤ i ∧ i < hi))) H) := by
  intro pins s σ H x y v u Q I rx ry h
  obtain ⟨i, a, lo, hi, rfl, rfl, ha, q⟩ := h
  obtain ⟨kk, rfl⟩ := rx
  obtain rfl : u = Value.ref a := ry
  obtain ⟨t1, t2, t3, ho⟩ := I.hok a _ ha
  show wpAny _ _ (do return Value.bool (!(← contains (Value.ref a) (Value.int i kk)))) _ _ s
  refine wpAny_bind (wpAny_contains_slot (T := "range") ⟨_, ho, rfl⟩ F.slot_range_contains (call_meets F.slot_range_contains ⟨_, ho, rfl⟩ F.entry_range_contains (F.args_range_contains_2 _ _) (q_contains a lo hi i t1 t2 t3 kk)
    ⟨ho, wpAny_truthy_bool (wpAny_pure ⟨.bl _, H, I, rfl, ?_⟩)⟩))
  rw [place1]
  exact q
end L2
/-! E2 -/
/-! E2: list.remove of a text, chains of three comparisons. -/
namespace L2
open PySem PySem.Spec PyProof.Rows
def eqsB (k : Str) (v : Value) : Bool := match v with
  | .str x _ => x.cps.toList == k.cps.toList
  | _ => false
theorem erase_ix {ns : List Str} {k : Str} {j : Nat} : ns[j]? = some k → (∀ m : Nat, m < j → ns[m]? ≠ some k) → ns.eraseIdx j = ns.erase k := by
  induction ns generalizing j with
  | nil => intro h _; simp at h
  | cons a r ih =>
    intro h hno
    cases j with
    | zero =>
      have e : a = k := Option.some.inj h
      subst e
      simp
    | succ j =>
      have ha : a ≠ k := fun e => hno 0 (Nat.succ_pos j) (by rw [e]; rfl)
      have h2 : r.eraseIdx j = r.erase k := ih h fun m hm => hno (m + 1) (Nat.succ_lt_succ hm)
      rw [List.erase_cons_tail (by simpa using ha)]
      show a :: r.eraseIdx j = a :: r.erase k
      rw [h2]
theorem first_ix {ns : List Str} {k : Str} (h : k ∈ ns) : ∃ j : Nat, ns[j]? = some k ∧ ∀ m : Nat, m < j → ns[m]? ≠ some k := by
  induction ns with
  | nil => cases h
  | cons a r ih =>
    by_cases e : a = k
    · exact ⟨0, by rw [e]; rfl, fun m hm => absurd hm (Nat.not_lt_zero m)⟩
    · obtain ⟨j, h1, h2⟩ := ih ((List.mem_cons.mp h).resolve_left fun z => e z.symm)
      refine ⟨j + 1, h1, fun m hm => ?_⟩
      cases m with
      | zero => exact fun z => e (Option.some.inj z)
      | succ m => exact h2 m (Nat.lt_of_succ_lt_succ hm)
theorem map_eraseIdxS : ∀ (l : List Str) (j : Nat), (l.map V.str).eraseIdx j = (l.eraseIdx j).map V.str
  | [], j => by simp
  | a :: r, 0 => by simp
  | a :: r, j + 1 => by
    have ih := map_eraseIdxS r j
    simp [ih]
section
variable {X : Cx}
def rRemS : V → List V → Hp → VK → Prop := fun x xs H Q => ∃ (l : Addr) (ns : List Str) (k : Str), x = .ref l ∧ xs = [.str k] ∧ H l = some (.lst (ns.map V.str)) ∧ k ∈ ns ∧ Q .non (upd H l (.lst ((ns.erase k).map V.str)))
theorem mt_removeS : MtM X "list.remove" rRemS := by
  intro pins s σ H x xs v us Q I rx rxs h
  obtain ⟨l, ns, k, rfl, rfl, hH, hk, q⟩ := h
  obtain ⟨j, hj, hno⟩ := first_ix hk
  cases rx
  obtain ⟨u, rfl, ru⟩ := rxs.one
  obtain ⟨t, rfl⟩ := ru
  obtain ⟨z, its, n, r, hl, e⟩ := I.lstM hH
  rw [List.length_map] at hl z
  have at_ : ∀ (m : Nat) (hm : m < its.toArray.size), ∃ y ty, ns[m]? = some y ∧ its.toArray[m] = .str y ty := fun m hm => by
    have hm' : m < ns.length := by rw [List.size_toArray] at hm; omega
    have e1 : (ns.map V.str)[m]? = some (V.str ns[m]) := by simp [hm']
    obtain ⟨u, hu, ty, e2⟩ := r.get e1
    obtain ⟨h1, h2⟩ := List.getElem?_eq_some_iff.mp hu
    exact ⟨ns[m], ty, List.getElem?_eq_getElem hm', by rw [← e2, ← h2]; simp⟩
  have hjn : j < ns.length := (List.getElem?_eq_some_iff.mp hj).1
  have hjl : j < its.toArray.size := by rw [List.size_toArray]; omega
  refine call_meets PySem.F.slot_list_remove ⟨_, e, rfl⟩ PySem.F.entry_list_remove (PySem.F.args_list_remove_2 _ _)     (MeetsSeq.list_remove l its.toArray n (.str k t) (eqsB k) (fun y hy => ?_) j hjl ?_ ?_ (by rw [List.size_toArray]; omega)) ⟨e, ?_⟩
  · obtain ⟨m, hm, em⟩ := Array.mem_iff_getElem.mp hy
    obtain ⟨y', ty, _, e2⟩ := at_ m hm
    rw [← em, e2]
    exact SeqRoads2.EqGives.str y' k ty t
  · obtain ⟨y, ty, h1, h2⟩ := at_ j hjl
    rw [h2]
    rw [hj] at h1
    cases h1
    show (k.cps.toList == k.cps.toList) = true
    simp
  · intro m hm hmj
    obtain ⟨y, ty, h1, h2⟩ := at_ m hm
    rw [h2]
    show (y.cps.toList == k.cps.toList) = false
    refine beq_eq_false_iff_ne.mpr fun e2 => hno m hmj ?_
    rw [h1]
    have e3 : y.cps = k.cps := by apply Array.ext'; exact e2
    have e4 : y = k := by cases y; cases k; simp at e3; rw [e3]
    rw [e4]
  · have rr := r.eraseIdx j
    rw [map_eraseIdxS, erase_ix hj hno] at rr
    refine ⟨V.non, _, I.lset (its' := its.eraseIdx j) (t' := s.toks) hH e ?_ rr ?_, rfl, q⟩
    · show its.toArray.eraseIdxIfInBounds j = (its.eraseIdx j).toArray
      rw [List.eraseIdxIfInBounds_toArray]
    · rw [List.length_map]
      have := List.length_erase_of_mem hk
      omega
end
end L2
/-! W5 -/
/-! W5: more walks, comprehensions with two fors, dicts of comprehensions, changed lists and dicts as data. -/
namespace CW
open PySem PySem.Spec PyProof.Rows L2
section
variable {Γ : Gam} {ρ : Rho} {te tl : TE} {ta : TA} {K : PySem.W.Frag} {β γ : Type}
/-! ### walks -/
theorem wk_pair {J : It} {S : Hp} {n : Nat} {f g : Nat → D} {K' : Hp → Prop} {u v : Nat → Option V} (w : Walk J n K' (YPair u v)) (hG : ∀ S' H', Ex S S' → Ok Γ S' H' → K' H')
    (hu : ∀ i x S', Ex S S' → u i = some x → i < n → At S' x (f i)) (hv : ∀ i x S', Ex S S' → v i = some x → i < n → At S' x (g i)) : Wk Γ J S ((List.range n).map fun i => D.tup [f i, g i]) := by
  refine ⟨fun i S' H' hi e k => w.goes i H' (by simpa using hi) (hG S' H' e k), fun S' H' e k => by simpa using w.stops H' (hG S' H' e k), fun i x S' H' H'' hi e k y => ?_⟩
  have hi' : i < n := by simpa using hi
  obtain ⟨T, a, b, rfl, hT, rfl, ha, hb⟩ := w.yields i H' x H'' hi' (hG S' H' e k) y
  refine ⟨upd S' T (.tup [a, b]), D.tup [f i, g i], .new k hT _, by simp [hi'], .tup upd_same (.cons ?_ (.cons ?_ .nil))⟩
  · exact (hu i a S' e ha hi').mono (Ex.new (k.fresh hT))
  · exact (hv i b S' e hb hi').mono (Ex.new (k.fresh hT))
theorem zipIdx_map (xs : List β) (enc : β → D) : (xs.zipIdx.map fun p => D.tup [.int (p.2 : Nat), enc p.1]) = (List.range xs.length).map fun i => D.tup [.int (i : Nat), ((xs[i]?).map enc).getD .non] := by
  apply List.ext_getElem?
  intro i
  by_cases h : i < xs.length
  · simp [h]
  · have h' : xs.length ≤ i := by omega
    simp [h']
theorem wv_enumL {xs : List β} {enc : β → D} (h : AvD Γ ta ρ [.lst (xs.map enc)]) : WvD Γ (iEnum K ta) ρ (xs.zipIdx.map fun p => D.tup [.int (p.2 : Nat), enc p.1]) := fun σ S H s k R q => h σ S H s k _ fun vs S2 H2 n a => by
  cases a with
  | cons h1 t =>
    cases t
    cases h1 with
    | lst e al =>
      rename_i p vs
      have le := al.length
      rw [List.length_map] at le
      refine ⟨_, vs, rfl, .of (n.ok.ex _ _ e), q _ _ _ n ?_⟩
      rw [zipIdx_map]
      have w := walk_enum (K := K) (a := p) (xs := vs)
      rw [le] at w
      refine wk_pair w (fun S' H' e1 k1 => .of (k1.ex _ _ (e1 _ _ e))) (fun i x S' e1 hx hi => by cases hx; exact .int _) (fun i x S' e1 hx hi => ?_)
      obtain ⟨d, hd, ad⟩ := al.get hx
      rw [List.getElem?_map] at hd
      rw [hd]
      exact ad.mono e1
theorem wv_enumT {xs : List β} {enc : β → D} (h : AvD Γ ta ρ [.tup (xs.map enc)]) : WvD Γ (iEnumT K ta) ρ (xs.zipIdx.map fun p => D.tup [.int (p.2 : Nat), enc p.1]) := fun σ S H s k R q => h σ S H s k _ fun vs S2 H2 n a => by
  cases a with
  | cons h1 t =>
    cases t
    cases h1 with
    | tup e al =>
      rename_i p vs
      have le := al.length
      rw [List.length_map] at le
      refine ⟨_, vs, rfl, .of (n.ok.ex _ _ e), q _ _ _ n ?_⟩
      rw [zipIdx_map]
      have w : Walk (IteT K p) vs.length (fun H => SqT K H p vs) (YPair (fun i => some (.int (i : Nat))) (fun i => vs[i]?)) := by
        refine ⟨fun i _ hi qq => ⟨vs, vs[i], qq, by simp [hi]⟩, fun _ qq => ⟨vs, qq, Nat.le_refl _⟩, fun i H v H' _ qq y => ?_⟩
        obtain ⟨T, x, h1, h2, h3, h4⟩ := y
        exact ⟨T, .int (i : Nat), x, h1, h2, h3, rfl, h4 vs qq⟩
      rw [le] at w
      refine wk_pair w (fun S' H' e1 k1 => .of (k1.ex _ _ (e1 _ _ e))) (fun i x S' e1 hx hi => by cases hx; exact .int _) (fun i x S' e1 hx hi => ?_)
      obtain ⟨d, hd, ad⟩ := al.get hx
      rw [List.getElem?_map] at hd
      rw [hd]
      exact ad.mono e1
theorem wv_zip {xs : List β} {ys : List γ} {enc : β → D} {enc2 : γ → D} (h : AvD Γ ta ρ [.lst (xs.map enc), .lst (ys.map enc2)]) : WvD Γ (iZip K ta) ρ ((xs.zip ys).map fun p => D.tup [enc p.1, enc2 p.2]) := fun σ S H s k R q => h σ S H s k _ fun vs S2 H2 n a => by
  cases a with
  | cons h1 t =>
    cases t with
    | cons h2 t =>
      cases t
      cases h1 with
      | lst e al =>
        cases h2 with
        | lst e2 al2 =>
          rename_i p vs p2 vs2
          have le := al.length
          have le2 := al2.length
          rw [List.length_map] at le le2
          refine ⟨_, _, vs, vs2, rfl, .of (n.ok.ex _ _ e), .of (n.ok.ex _ _ e2), q _ _ _ n ?_⟩
          have hz : ((xs.zip ys).map fun p => D.tup [enc p.1, enc2 p.2]) = (List.range (min xs.length ys.length)).map fun i => D.tup [((xs[i]?).map enc).getD .non, ((ys[i]?).map enc2).getD .non] := by
            apply List.ext_getElem?
            intro i
            by_cases h : i < min xs.length ys.length
            · have h1 : i < xs.length := by omega
              have h2 : i < ys.length := by omega
              have e1 : (xs.zip ys)[i]? = some (xs[i], ys[i]) := by
                rw [List.getElem?_zip_eq_some]
                exact ⟨List.getElem?_eq_getElem h1, List.getElem?_eq_getElem h2⟩
              have e2 : (List.range (min xs.length ys.length))[i]? = some i := List.getElem?_range h
              rw [List.getElem?_map, List.getElem?_map, e1, e2]
              simp [h1, h2]
            · have h' : min xs.length ys.length ≤ i := Nat.le_of_not_lt h
              rw [List.getElem?_eq_none (by simpa using h'), List.getElem?_eq_none (by simpa using h')]
          rw [hz]
          have w := walk_zip (K := K) (a := p) (b := p2) (xs := vs) (ys := vs2) (n := min xs.length ys.length) (by rw [le, le2])
          refine wk_pair w (fun S' H' e1 k1 => ⟨.of (k1.ex _ _ (e1 _ _ e)), .of (k1.ex _ _ (e1 _ _ e2))⟩) (fun i x S' e1 hx hi => ?_) (fun i x S' e1 hx hi => ?_)
          · obtain ⟨d, hd, ad⟩ := al.get hx
            rw [List.getElem?_map] at hd
            rw [hd]
            exact ad.mono e1
          · obtain ⟨d, hd, ad⟩ := al2.get hx
            rw [List.getElem?_map] at hd
            rw [hd]
            exact ad.mono e1
theorem wv_rngV {n : Nat} (h : EvD Γ te ρ (.rng 0 (n : Int))) (hn : n ≤ 100000) : WvD Γ (iRngV te) ρ (intsD n) := fun σ S H s k R q => h σ S H s k _ fun v S2 H2 n2 a => by
  cases a with
  | rng e => exact ⟨_, _, rfl, n2.ok.ex _ _ e, by omega, by omega, q _ _ _ n2 (wk_range (lo := 0) (by simp) fun i => by simp)⟩
/-- a text's signs -/
def signs (z : Str) : List D := z.cps.toList.map fun c => D.str ⟨#[c]⟩
theorem wv_str {z : Str} (h : EvD Γ te ρ (.str z)) : WvD Γ (iStr te) ρ (signs z) := fun σ S H s k R q => h σ S H s k _ fun v S2 H2 n a => by
  cases a
  have w := walk_str (z := z)
  refine ⟨z, rfl, q _ _ _ n ⟨fun i S' H' hi e1 k1 => w.goes i H' (by simpa [signs] using hi) trivial, fun S' H' e1 k1 => by simpa [signs] using w.stops H' trivial, fun i x S' H' H'' hi e1 k1 y => ?_⟩⟩
  obtain ⟨rfl, c, hc, rfl⟩ := w.yields i H' x H'' (by simpa [signs] using hi) trivial y
  refine ⟨S', .str ⟨#[c]⟩, .refl k1, ?_, .str _⟩
  unfold signs
  rw [List.getElem?_map, Array.getElem?_toList, hc]
  rfl
theorem rd_inSign {c : Nat} {z : Str} : RD2 Γ (fun x y H Q => ∃ (c : Nat) (z : Str), x = .str ⟨#[c]⟩ ∧ y = .str z ∧ Q (.bl (decide (c ∈ z.cps.toList))) H) (.str ⟨#[c]⟩) (.str z) (.bl (decide (c ∈ z.cps.toList))) := fun x y S H a b k Q q => by
  cases a; cases b; exact ⟨c, z, rfl, rfl, q _ S H (.refl k) (.bl _)⟩
theorem rd_ninSign {c : Nat} {z : Str} : RD2 Γ (fun x y H Q => ∃ (c : Nat) (z : Str), x = .str ⟨#[c]⟩ ∧ y = .str z ∧ Q (.bl (!decide (c ∈ z.cps.toList))) H) (.str ⟨#[c]⟩) (.str z) (.bl (!decide (c ∈ z.cps.toList))) := fun x y S H a b k Q q => by
  cases a; cases b; exact ⟨c, z, rfl, rfl, q _ S H (.refl k) (.bl _)⟩
theorem rd_ixS {z : Str} {i : Int} {n c : Nat} (hi : i = (n : Int)) (hz : z.length ≤ 100000) (h : z.cps.toList[n]? = some c) : RD2 Γ rIxS (.str z) (.int i) (.str ⟨#[c]⟩) := fun x y S H a b k Q q => by
  subst hi
  cases a; cases b
  exact ⟨z, _, c, rfl, rfl, szl hz, atI_nat h, q _ S H (.refl k) (.str _)⟩
theorem ra_lenS {z : Str} (hz : z.length ≤ 100000) : RDA Γ (fun xs H Q => ∃ z, xs = [.str z] ∧ z.length ≤ sizeLine ∧ Q (.int z.length) H) [.str z] (.int z.length) := fun xs S H a k Q q => by
  cases a with
  | cons h t => cases t; cases h; exact ⟨z, rfl, szl hz, q _ S H (.refl k) (.int _)⟩
theorem ra_range2 {i j : Int} : RDA Γ (fun vs H Q => ∃ i j, vs = [V.int i, V.int j] ∧ ∀ p, H p = none → Q (.ref p) (upd H p (.rng i j))) [.int i, .int j] (.rng i j) := fun xs S H a k Q q => by
  cases a with
  | cons h t =>
    cases t with
    | cons h2 t => cases t; cases h; cases h2; exact ⟨i, j, rfl, fun p hp => q _ _ _ (.new k hp _) (.rng upd_same)⟩
theorem ra_range1 {n : Int} : RDA Γ (fun vs H Q => ∃ n, vs = [V.int n] ∧ ∀ p, H p = none → Q (.ref p) (upd H p (.rng 0 n))) [.int n] (.rng 0 n) := fun xs S H a k Q q => by
  cases a with
  | cons h t => cases t; cases h; exact ⟨n, rfl, fun p hp => q _ _ _ (.new k hp _) (.rng upd_same)⟩
theorem rd_ninRng {i lo hi : Int} : RD2 Γ (fun x y H Q => ∃ i a lo hi, x = V.int i ∧ y = V.ref a ∧ H a = some (.rng lo hi) ∧ Q (.bl (!decide (lo ≤ i ∧ i < hi))) H) (.int i) (.rng lo hi) (.bl (!decide (lo ≤ i ∧ i < hi))) := fun x y S H a b k Q q => by
  cases a
  cases b with
  | rng e => exact ⟨i, _, lo, hi, rfl, rfl, k.ex _ _ e, q _ S H (.refl k) (.bl _)⟩
/-- list(range(n)) -/
theorem en_listRg {te : TE} {n : Nat} (h : EvD Γ te ρ (.int (n : Int))) (hn : n ≤ 100000) : EvN Γ (tLstRg (tRg1 te)) ρ (.lst (intsD n)) := fun σ S H s k Q q => h σ S H s k _ fun v S1 H1 n1 a => by
  cases a
  refine ⟨_, rfl, RgOk.of_le (by decide) (by omega) (by decide) (by omega), fun l hl => q l S1 _ _ (n1.trans (.hid n1.ok hl _)) (live_of n1 hl) (n1.ok.fresh hl) upd_same (.lst ?_)⟩
  have e : rgV 0 (n : Int) = ((List.range n).map fun i => ((i : Nat) : Int)).map V.int := by
    unfold rgV
    simp
  have e2 : intsD n = ((List.range n).map fun i => ((i : Nat) : Int)).map D.int := by
    unfold intsD
    simp
  rw [e, e2]
  exact AtAll.of_ints _
/-! ### two fors -/
theorem flatMap_take {xs : List β} {f : β → List D} {i : Nat} {x : β} (hx : xs[i]? = some x) : (xs.take (i + 1)).flatMap f = (xs.take i).flatMap f ++ f x := by
  have e : xs.take (i + 1) = xs.take i ++ [x] := by rw [List.take_add_one, hx]; rfl
  rw [e, List.flatMap_append]
  simp
theorem ev_lc2 {wi wi1 : TI} {g g1 : TG} {vs vs1 : List Nat} {xs : List β} {enc : β → D} {ys : β → List γ} {enc1 : γ → D} {h : β → γ → D} {M : Nat} (hw : WvD Γ wi ρ (xs.map enc))
    (hb : ∀ x ∈ xs, ∃ ρ', GvD Γ g vs (wipeD ρ vs) (enc x) ρ' ∧ WvD Γ wi1 ρ' ((ys x).map enc1) ∧ ∀ y ∈ ys x, ∃ ρ'', GvD Γ g1 vs1 (wipeD ρ' vs1) (enc1 y) ρ'' ∧ EvD Γ te ρ'' (h x y)) (hv : ∀ j ∈ vs1, j ∈ vs) (hz : (xs.flatMap ys).length ≤ 90000) :
    EvN Γ (tLc2 wi g tYes wi1 g1 tYes te vs vs1) ρ (.lst (xs.flatMap fun x => (ys x).map (h x))) := fun σ S H s k Q q => hw σ S H s k _ fun J S1 H1 n1 w => by
  intro Dl hD
  have hS1 := n1.ok.fresh hD
  have len_all : (xs.flatMap fun x => (ys x).map (h x)).length = (xs.flatMap ys).length := by simp [List.length_flatMap]
  refine ⟨fun i m H' => m = xs.length - i ∧ i ≤ xs.length ∧ ∃ S' acc, Nx Γ S1 H1 S' H' ∧ S' Dl = none ∧ H' Dl = some (.lst acc) ∧ AtAll S' acc ((xs.take i).flatMap fun x => (ys x).map (h x)),
    ⟨xs.length, rfl, Nat.zero_le _, S1, [], .hid n1.ok hD _, hS1, upd_same, by simpa using AtAll.nil⟩, ?_⟩
  rintro i m H' ⟨rfl, hi, S', acc, n2, hs, hd, al⟩
  have e2 := n2.ex
  by_cases hlt : i < xs.length
  · refine .inr ⟨w.go i S' H' (by simpa using hlt) e2 n2.ok, fun H'' => i + 1 ≤ xs.length ∧ ∃ S' acc, Nx Γ S1 H1 S' H'' ∧ S' Dl = none ∧ H'' Dl = some (.lst acc) ∧ AtAll S' acc ((xs.take (i + 1)).flatMap fun x => (ys x).map (h x)),
      fun H'' z => ⟨xs.length - (i + 1), by omega, rfl, z.1, z.2⟩, fun x H'' y => ?_⟩
    obtain ⟨S3, d, n3, hdx, ad⟩ := w.yld i x S' H' H'' (by simpa using hlt) e2 n2.ok y
    have hx : xs[i]? = some xs[i] := List.getElem?_eq_getElem hlt
    rw [List.getElem?_map, hx] at hdx
    cases hdx
    obtain ⟨ρ', hg, hw1, hb1⟩ := hb xs[i] (List.getElem_mem hlt)
    have sW : Sl S3 (L2.wipe σ vs) (wipeD ρ vs) := (s.mono (n1.ex.trans (e2.trans n3.ex))).wipe vs
    refine hg x _ S3 H'' ad sW n3.ok _ fun σ2 s2 l2 ag => ⟨by rw [wipe_agree (τ := L2.wipe σ vs) l2 ag, wipe_wipe], ?_⟩
    show wi1 σ2 H'' _
    refine hw1 σ2 S3 H'' s2 n3.ok _ fun J1 S4 H4 n4 w1 => ?_
    have n24 := (n2.trans n3).trans n4
    have keep : ∀ {S5 H5}, Nx Γ S' H' S5 H5 → S5 Dl = none ∧ H5 Dl = some (.lst acc) := fun {S5 H5} n5 => ⟨(n5.old Dl (by rw [hd]; exact fun z => nomatch z)).trans hs, n5.fr _ _ (n1.ok.nb hD) hd⟩
    obtain ⟨hs4, hd4⟩ := keep (n3.trans n4)
    refine ⟨fun j m1 H5 => m1 = (ys xs[i]).length - j ∧ j ≤ (ys xs[i]).length ∧ ∃ S5 acc5, Nx Γ S1 H1 S5 H5 ∧ Ex S4 S5 ∧ S5 Dl = none ∧ H5 Dl = some (.lst acc5) ∧ AtAll S5 acc5 (((xs.take i).flatMap fun x => (ys x).map (h x)) ++ ((ys xs[i]).take j).map (h xs[i])),
      ⟨(ys xs[i]).length, rfl, Nat.zero_le _, S4, acc, n24, Ex.refl _, hs4, hd4, by simpa using al.mono (n3.ex.trans n4.ex)⟩, ?_⟩
    rintro j m1 H5 ⟨rfl, hj, S5, acc5, n5, e45, hs5, hd5, al5⟩
    by_cases hjl : j < (ys xs[i]).length
    · refine .inr ⟨w1.go j S5 H5 (by simpa using hjl) e45 n5.ok, fun H6 => j + 1 ≤ (ys xs[i]).length ∧ ∃ S6 acc6, Nx Γ S1 H1 S6 H6 ∧ Ex S4 S6 ∧ S6 Dl = none ∧ H6 Dl = some (.lst acc6) ∧ AtAll S6 acc6 (((xs.take i).flatMap fun x => (ys x).map (h x)) ++ ((ys xs[i]).take (j + 1)).map (h xs[i])),
        fun H6 z => ⟨(ys xs[i]).length - (j + 1), by omega, rfl, z.1, z.2⟩, fun x1 H6 y1 => ?_⟩
      obtain ⟨S6, d1, n6, hdy, ad1⟩ := w1.yld j x1 S5 H5 H6 (by simpa using hjl) e45 n5.ok y1
      have hy : (ys xs[i])[j]? = some (ys xs[i])[j] := List.getElem?_eq_getElem hjl
      rw [List.getElem?_map, hy] at hdy
      cases hdy
      obtain ⟨ρ'', hg1, he⟩ := hb1 _ (List.getElem_mem hjl)
      have s6 : Sl S6 (L2.wipe σ2 vs1) (wipeD ρ' vs1) := (s2.mono (n4.ex.trans (e45.trans n6.ex))).wipe vs1
      refine hg1 x1 _ S6 H6 ad1 s6 n6.ok _ fun σ3 s3 l3 ag3 => ⟨by rw [wipe_agree (τ := L2.wipe σ2 vs1) l3 ag3, wipe_wipe], ?_⟩
      show te σ3 H6 _
      refine he σ3 S6 H6 s3 n6.ok _ fun v S7 H7 n7 a7 => ?_
      have n67 := n6.trans n7
      have hd7 : H7 Dl = some (.lst acc5) := n67.fr _ _ (n1.ok.nb hD) hd5
      have hs7 : S7 Dl = none := (n67.old Dl (by rw [hd5]; exact fun z => nomatch z)).trans hs5
      have al7 := al5.mono n67.ex
      refine ⟨acc5, hd7, ?_, hjl, S7, acc5 ++ [v], (n5.trans n67).mut hD hs7 hd7 (fun z => z) n1.ok _, e45.trans n67.ex, hs7, upd_same, ?_⟩
      · have l5 := al5.length
        have : (((xs.take i).flatMap fun x => (ys x).map (h x)) ++ ((ys xs[i]).take j).map (h xs[i])).length ≤ (xs.flatMap fun x => (ys x).map (h x)).length := by
          have e1 : xs = xs.take i ++ xs[i] :: xs.drop (i + 1) := by rw [← List.drop_eq_getElem_cons hlt]; exact (List.take_append_drop i xs).symm
          have e3 : (xs.flatMap fun x => (ys x).map (h x)) = ((xs.take i).flatMap fun x => (ys x).map (h x)) ++ ((ys xs[i]).map (h xs[i]) ++ (xs.drop (i + 1)).flatMap fun x => (ys x).map (h x)) := by
            have e4 := congrArg (fun l : List β => l.flatMap fun x => (ys x).map (h x)) e1
            simp only [List.flatMap_append, List.flatMap_cons] at e4
            exact e4
          rw [e3]
          simp only [List.length_append, List.length_map, List.length_take]
          omega
        exact szlt (by omega)
      · have ej : ((ys xs[i]).take (j + 1)).map (h xs[i]) = ((ys xs[i]).take j).map (h xs[i]) ++ [h xs[i] (ys xs[i])[j]] := by
          have e0 : (ys xs[i]).take (j + 1) = (ys xs[i]).take j ++ [(ys xs[i])[j]] := by rw [List.take_add_one, hy]; rfl
          rw [e0, List.map_append]
          rfl
        rw [ej, ← List.append_assoc]
        exact al7.snoc a7
    · have ej : j = (ys xs[i]).length := by omega
      subst ej
      refine .inl ⟨by simpa using w1.stop S5 H5 e45 n5.ok, hlt, S5, acc5, n5, hs5, hd5, ?_⟩
      rw [flatMap_take hx]
      rw [List.take_length] at al5
      exact al5
  · have e : i = xs.length := by omega
    subst e
    refine .inl ⟨by simpa using w.stop S' H' e2 n2.ok, q Dl S' H' (.lst acc) (n1.trans n2) (live_of n1 hD) hs hd ?_⟩
    rw [List.take_length] at al
    exact .lst al
end
end CW
/-! W6 -/
/-! W6: mutable locals changed, tuple targets, dicts of comprehensions. -/
namespace CW
open PySem PySem.Spec PyProof.Rows L2
def updM : Mus → Nat → D → Mus
  | [], _, _ => []
  | (j, e) :: μ, i, d => if i = j then (j, d) :: μ else (j, e) :: updM μ i d
def getM : Mus → Nat → Option D
  | [], _ => none
  | (j, e) :: μ, i => if i = j then some e else getM μ i
theorem getM_mem {μ : Mus} {i : Nat} {d : D} (h : getM μ i = some d) : (i, d) ∈ μ := by
  induction μ with
  | nil => cases h
  | cons p μ ih =>
    obtain ⟨j, e⟩ := p
    unfold getM at h
    by_cases q : i = j
    · rw [if_pos q] at h; cases h; rw [q]; exact List.mem_cons_self
    · rw [if_neg q] at h; exact List.mem_cons_of_mem _ (ih h)
theorem updM_keys (μ : Mus) (i : Nat) (d : D) : (updM μ i d).map (·.1) = μ.map (·.1) := by
  induction μ with
  | nil => rfl
  | cons p μ ih =>
    obtain ⟨j, e⟩ := p
    unfold updM
    by_cases q : i = j
    · rw [if_pos q]; rfl
    · rw [if_neg q]; simp [ih]
theorem mem_updM {μ : Mus} {i : Nat} {d : D} (nd : (μ.map (·.1)).Nodup) {j : Nat} {e : D} (h : (j, e) ∈ updM μ i d) : (j = i ∧ e = d) ∨ (j ≠ i ∧ (j, e) ∈ μ) := by
  induction μ with
  | nil => cases h
  | cons p μ ih =>
    obtain ⟨k, f⟩ := p
    have nd' := List.nodup_cons.mp nd
    unfold updM at h
    by_cases q : i = k
    · rw [if_pos q] at h
      rcases List.mem_cons.mp h with z | z
      · cases z; exact .inl ⟨q.symm, rfl⟩
      · refine .inr ⟨fun e => nd'.1 (List.mem_map.mpr ⟨_, z, by rw [← q, ← e]⟩), List.mem_cons_of_mem _ z⟩
    · rw [if_neg q] at h
      rcases List.mem_cons.mp h with z | z
      · cases z; exact .inr ⟨fun e => q e.symm, List.mem_cons_self⟩
      · rcases ih nd'.2 z with z | ⟨z1, z2⟩
        · exact .inl z
        · exact .inr ⟨z1, List.mem_cons_of_mem _ z2⟩
section
variable {Γ : Gam} {S0 H0 F S H S2 H2 : Hp} {σ : L2.St} {ρ ρ1 : Rho} {μ μ1 : Mus} {te ta tb tk tv td ty : TE} {i j : Nat} {d e : D} {K : PySem.W.Frag}
/-- the object of slot i is changed -/
theorem Mu.upd (m : Mu S H H0 σ μ) {p : Addr} {o : HO} (hp : σ[i]? = some (some (.ref p))) (hi : (i, e) ∈ μ) (a : AtO S o d) : Mu S (L2.upd H p o) H0 σ (updM μ i d) := by
  obtain ⟨p', o', a1, a2, a3, a4, a5⟩ := m.at_ i e hi
  rw [hp] at a1; cases a1
  refine ⟨fun j f hj => ?_, fun j f l g h1 h2 => ?_, by rw [updM_keys]; exact m.nd⟩
  · rcases mem_updM m.nd hj with ⟨rfl, rfl⟩ | ⟨hne, hj⟩
    · exact ⟨p, o, hp, a2, a3, upd_same, a⟩
    · obtain ⟨q, oq, b1, b2, b3, b4, b5⟩ := m.at_ j f hj
      have hqp : q ≠ p := fun z => m.ds j f i e hj hi hne (by rw [b1, hp, z])
      exact ⟨q, oq, b1, b2, b3, by rw [upd_ne hqp]; exact b4, b5⟩
  · intro hjl
    have key : ∀ {k x}, (k, x) ∈ updM μ i d → ∃ y, (k, y) ∈ μ := fun {k x} hk => by
      rcases mem_updM m.nd hk with ⟨rfl, _⟩ | ⟨_, hk⟩
      · exact ⟨e, hi⟩
      · exact ⟨x, hk⟩
    obtain ⟨y1, k1⟩ := key h1
    obtain ⟨y2, k2⟩ := key h2
    exact m.ds j y1 l y2 k1 k2 hjl
theorem slot_of (s : Sl S σ ρ) (m : Mu S H H0 σ μ) {i : Nat} {d : D} (h : getM μ i = some d) : ∃ p o, σ[i]? = some (some (.ref p)) ∧ H0 p = none ∧ S p = none ∧ H p = some o ∧ AtO S o d := m.at_ i d (getM_mem h)
/-- xs.append(e) -/
theorem sv_app {ds : List D} (hm : getM μ i = some (.lst ds)) (he : EvD Γ te ρ e) (hz : ds.length ≤ 90000) : SvD Γ (tDrop (tBM K "list" rAppend (tVar i) (tCons te tNil))) ρ μ (.nx ρ (updM μ i (.lst (ds ++ [e])))) := fun S0 H0 F S H σ k0 n f s m Dn q => by
  obtain ⟨p, o, h1, h2, h3, h4, h5⟩ := m.at_ i _ (getM_mem hm)
  cases h5 with
  | lst al =>
    refine ⟨_, h1, .inl ⟨rfl, _, .of h4⟩, ?_⟩
    refine he σ S H s n.ok _ fun v S2 H2 n2 a => ?_
    have m2 := m.step k0 n2
    have n02 := n.trans n2
    obtain ⟨p', o', g1, g2, g3, g4, g5⟩ := m2.at_ i _ (getM_mem hm)
    rw [h1] at g1; cases g1
    have h4' : H2 p = some (.lst _) := n2.fr p _ (k0.nb h2) h4
    have al2 := al.mono n2.ex
    refine ⟨p, _, v, rfl, rfl, h4', szlt (by have := al.length; omega), ?_⟩
    exact q σ S2 _ (n02.mut h2 g3 h4' (fun z => z) k0 _) (f.trans n2.ex) (s.mono n2.ex) (m2.upd h1 (getM_mem hm) (.lst (al2.snoc a)))
/-- xs.remove(text) -/
theorem sv_rem {ns : List Str} {x : Str} (hm : getM μ i = some (.lst (ns.map D.str))) (he : EvD Γ te (frz ρ μ) (.str x)) (hx : x ∈ ns) : SvD Γ (tDrop (tBM K "list" rRemS (tVar i) (tCons te tNil))) ρ μ (.nx ρ (updM μ i (.lst ((ns.erase x).map D.str)))) := fun S0 H0 F S H σ k0 n f s m Dn q => by
  obtain ⟨p, o, h1, h2, h3, h4, h5⟩ := m.at_ i _ (getM_mem hm)
  cases h5 with
  | lst al =>
    rw [al.strs] at h4
    refine ⟨_, h1, .inl ⟨rfl, _, .of h4⟩, ?_⟩
    obtain ⟨S', n', e', s', _⟩ := m.frz k0 n s
    refine he σ S' H s' n'.ok _ fun v S2 H2 n2 a => ?_
    cases a
    have m2 := m.back k0 n2
    have h4' : H2 p = some (.lst (ns.map V.str)) := n2.fr p _ (k0.nb h2) h4
    refine ⟨p, ns, x, rfl, rfl, h4', hx, ?_⟩
    exact q σ S _ ((n.back k0 n2).mut h2 h3 h4' (fun z => z) k0 _) f s (m2.upd h1 (getM_mem hm) (.lst (AtAll.of_strs _)))
/-- y = xs.pop(0) -/
theorem sv_pop0 {ds : List D} (hm : getM μ i = some (.lst (d :: ds))) (hj : isIn μ j = false := by rfl) : SvD Γ (tAsg (tBM K "list" rPopAt (tVar i) (tCons (tC (.int 0)) tNil)) (gName j)) ρ μ (.nx (ρ.set j (some d)) (updM μ i (.lst ds))) := fun S0 H0 F S H σ k0 n f s m Dn q => by
  obtain ⟨p, o, h1, h2, h3, h4, h5⟩ := m.at_ i _ (getM_mem hm)
  cases h5 with
  | lst al =>
    cases al with
    | cons a al =>
      refine ⟨_, h1, .inl ⟨rfl, _, .of h4⟩, ?_⟩
      refine ⟨p, _, 0, 0, _, rfl, rfl, h4, by decide, by decide, ?_, rfl, ?_⟩
      · unfold seqIndex?; simp
      · have m2 := m.upd h1 (getM_mem hm) (AtO.lst al)
        exact q _ S _ (n.mut h2 h3 h4 (fun z => z) k0 _) f (s.set j a) (m2.set (by rw [updM_keys]; exact not_in hj) _)
/-- a dict's entry set -/
def putD (kvs : List (Str × D)) (x : Str) (d : D) : List (Str × D) := if kvs.any (fun p => decide (p.1 = x)) then kvs.map (fun p => if p.1 = x then (p.1, d) else p) else kvs ++ [(x, d)]
theorem AtKv.any {x : Str} : ∀ {kvs : List (Key × V)} {ds : List (Str × D)}, AtKv S kvs ds → (kvs.any fun kv => decide (kv.1 = Sum.inr x)) = ds.any fun p => decide (p.1 = x)
  | _, _, .nil => rfl
  | _, _, .cons (x := y) h t => by
    rw [List.any_cons, List.any_cons, AtKv.any t, key_rr]
theorem AtKv.repl {x : Str} {v : V} {d : D} (a : At S v d) : ∀ {kvs : List (Key × V)} {ds : List (Str × D)}, AtKv S kvs ds → AtKv S (kvs.map fun kv => if kv.1 = Sum.inr x then (kv.1, v) else kv) (ds.map fun p => if p.1 = x then (p.1, d) else p)
  | _, _, .nil => .nil
  | _, _, .cons (x := y) h t => by
    rw [List.map_cons, List.map_cons]
    by_cases e : y = x
    · subst e
      rw [if_pos rfl, if_pos rfl]
      exact .cons a (AtKv.repl a t)
    · rw [if_neg (fun z : (Sum.inr y : Key) = Sum.inr x => e (Sum.inr.inj z)), if_neg (fun z : y = x => e z)]
      exact .cons h (AtKv.repl a t)
theorem AtKv.snoc {x : Str} {v : V} {d : D} (a : At S v d) : ∀ {kvs : List (Key × V)} {ds : List (Str × D)}, AtKv S kvs ds → AtKv S (kvs ++ [(Sum.inr x, v)]) (ds ++ [(x, d)])
  | _, _, .nil => .cons a .nil
  | _, _, .cons h t => .cons h (AtKv.snoc a t)
theorem AtKv.put {x : Str} {v : V} {d : D} {kvs : List (Key × V)} {ds : List (Str × D)} (h : AtKv S kvs ds) (a : At S v d) : AtKv S (putK kvs (Sum.inr x) v) (putD ds x d) := by
  unfold putK putD
  have e : (kvs.any fun kv => decide (kv.1 = (Sum.inr x : Key))) = ds.any fun p => decide (p.1 = x) := h.any
  rw [e]
  split
  · exact h.repl a
  · exact h.snoc a
/-- d[x] = e, mutable locals read by e, a new object of scalars -/
theorem sv_dput {kvs : List (Str × D)} {x : Str} (hm : getM μ i = some (.dic kvs)) (hv : EvN Γ tv (frz ρ μ) d) (hd : d.flat = true) (hy : EvD Γ ty ρ (.str x)) (hz : kvs.length ≤ 90000) : SvD Γ (sDPut (tVar i) ty tv) ρ μ (.nx ρ (updM μ i (.dic (putD kvs x d)))) := fun S0 H0 F S H σ k0 n f s m Dn q => by
  obtain ⟨p, o, h1, h2, h3, h4, h5⟩ := m.at_ i _ (getM_mem hm)
  cases h5 with
  | dK al =>
    obtain ⟨S', n', e', s', _⟩ := m.frz k0 n s
    refine hv σ S' H s' n'.ok _ fun r S2 H2 o n2 hr hs ho a => ?_
    refine ⟨_, h1, ?_⟩
    have hS : S r = none := n.ok.fresh hr
    have h0 := live_of n hr
    have n3 : Nx Γ S0 H0 (L2.upd S r o) H2 := (n.back k0 n2).freeze h0 hS ho k0
    have eS : Ex S (L2.upd S r o) := Ex.new hS
    have hpr : p ≠ r := fun z => by rw [z, hr] at h4; cases h4
    have m2 : Mu (L2.upd S r o) H2 H0 σ μ := by
      have m1 := m.back k0 n2
      refine ⟨fun l x hl => ?_, m1.ds, m1.nd⟩
      obtain ⟨p3, o3, g1, g2, g3, g4, g5⟩ := m1.at_ l x hl
      refine ⟨p3, o3, g1, g2, ?_, g4, g5.mono eS⟩
      obtain ⟨p4, o4, b1, _, _, b4, _⟩ := m.at_ l x hl
      rw [g1] at b1; cases b1
      rw [upd_ne (fun z : p3 = r => by rw [z, hr] at b4; cases b4)]
      exact g3
    refine hy σ _ H2 (s.mono eS) n3.ok _ fun y S4 H4 n4 a4 => ?_
    cases a4
    have h4' : H4 p = some (.dK _) := n4.fr p _ (k0.nb h2) (n2.fr p _ (k0.nb h2) h4)
    have m4 := m2.step k0 n4
    obtain ⟨p3, o3, g1, g2, g3, g4, g5⟩ := m4.at_ i _ (getM_mem hm)
    rw [h1] at g1; cases g1
    have at1 : At S4 (.ref r) d := ((a.sc hd).at_ upd_same).mono n4.ex
    have al4 := al.mono (eS.trans n4.ex)
    refine ⟨p, _, rfl, DPut.k (k := Sum.inr x) h4' (szlt (by have := al.length; omega)), ?_⟩
    exact q σ S4 _ ((n3.trans n4).mut h2 g3 h4' (fun z => z) k0 _) (f.trans (eS.trans n4.ex)) (s.mono (eS.trans n4.ex)) (m4.upd h1 (getM_mem hm) (.dK (al4.put at1)))
/-- a tuple target, any value -/
theorem sv_asgG {g : TG} {vs : List Nat} (he : EvD Γ te ρ d) (hg : GvD Γ g vs ρ d ρ1) (hv : ∀ j ∈ vs, isIn μ j = false) : SvD Γ (tAsg te g) ρ μ (.nx ρ1 μ) := fun S0 H0 F S H σ k0 n f s m Dn q =>
  he σ S H s n.ok _ fun v S2 H2 n2 a => hg v σ S2 H2 a (s.mono n2.ex) n2.ok _ fun σ' s' _ ag => q σ' S2 H2 (n.trans n2) (f.trans n2.ex) s' ((m.step k0 n2).agree (fun j hj => not_in (hv j hj)) ag)
/-! ### a, b = e1, e2 -/
theorem sv_par_ii (ha : EvD Γ ta ρ d) (hb : EvD Γ tb ρ e) (hi : isIn μ i = false := by rfl) (hj : isIn μ j = false := by rfl) : SvD Γ (tPar i j (tCons ta (tCons tb tNil))) ρ μ (.nx ((ρ.set i (some d)).set j (some e)) μ) := fun S0 H0 F S H σ k0 n f s m Dn q =>
  ha σ S H s n.ok _ fun v S1 H1 n1 a => hb σ S1 H1 (s.mono n1.ex) n1.ok _ fun w S2 H2 n2 b => ⟨v, w, rfl, q _ S2 H2 ((n.trans n1).trans n2) (f.trans (n1.ex.trans n2.ex)) (((s.mono (n1.ex.trans n2.ex)).set i (a.mono n2.ex)).set j b) ((((m.step k0 n1).step k0 n2).set (not_in hi) _).set (not_in hj) _)⟩
/-- the second new -/
theorem sv_par_in (ha : EvD Γ ta ρ d) (hb : EvN Γ tb ρ e) (hl : Nat.blt j ρ.length = true := by rfl) (hi : isIn μ i = false := by rfl) (hj : isIn μ j = false := by rfl) : SvD Γ (tPar i j (tCons ta (tCons tb tNil))) ρ μ (.nx ((ρ.set i (some d)).set j none) ((j, e) :: μ)) := fun S0 H0 F S H σ k0 n f s m Dn q =>
  ha σ S H s n.ok _ fun v S1 H1 n1 a => hb σ S1 H1 (s.mono n1.ex) n1.ok _ fun p S2 H2 o n2 hp hs ho b => by
    have m1 := m.step k0 n1
    have m2 := (m1.step k0 n2).set (not_in hi) (some v)
    refine ⟨v, _, rfl, q _ S2 H2 ((n.trans n1).trans n2) (f.trans (n1.ex.trans n2.ex)) (((s.mono (n1.ex.trans n2.ex)).set i (a.mono n2.ex)).setN j _) (m2.put (not_in hj) (by rw [List.length_set, s.len]; exact Nat.le_of_ble_eq_true hl) (live_of (n.trans n1) hp) hs ho b fun l x hl z => ?_)⟩
    have hil : i ≠ l := fun z => not_in hi (List.mem_map.mpr ⟨_, hl, z.symm⟩)
    rw [List.getElem?_set_ne hil] at z
    obtain ⟨p', o', h1, _, _, h4, _⟩ := m1.at_ l x hl
    rw [h1] at z; cases z
    rw [hp] at h4; cases h4
/-- the first new -/
theorem sv_par_ni (ha : EvN Γ ta ρ d) (hb : EvD Γ tb ρ e) (hij : i ≠ j := by decide) (hl : Nat.blt i ρ.length = true := by rfl) (hi : isIn μ i = false := by rfl) (hj : isIn μ j = false := by rfl) : SvD Γ (tPar i j (tCons ta (tCons tb tNil))) ρ μ (.nx ((ρ.set i none).set j (some e)) ((i, d) :: μ)) := fun S0 H0 F S H σ k0 n f s m Dn q =>
  ha σ S H s n.ok _ fun p S1 H1 o n1 hp hs ho a => hb σ S1 H1 (s.mono n1.ex) n1.ok _ fun w S2 H2 n2 b => by
    have m1 : Mu S1 H1 H0 (σ.set i (some (V.ref p))) ((i, d) :: μ) := (m.step k0 n1).put (not_in hi) (by rw [s.len]; exact Nat.le_of_ble_eq_true hl) (live_of n hp) hs ho a fun l x hl z => by
      obtain ⟨p', o', h1, _, _, h4, _⟩ := m.at_ l x hl
      rw [h1] at z; cases z
      rw [hp] at h4; cases h4
    have hj' : j ∉ ((i, d) :: μ).map (·.1) := fun z => by
      rcases List.mem_cons.mp z with z | z
      · exact hij z.symm
      · exact not_in hj z
    exact ⟨_, w, rfl, q _ S2 H2 ((n.trans n1).trans n2) (f.trans (n1.ex.trans n2.ex)) (((s.mono (n1.ex.trans n2.ex)).setN i _).set j b) ((m1.step k0 n2).set hj' _)⟩
/-- both new -/
theorem sv_par_nn (ha : EvN Γ ta ρ d) (hb : EvN Γ tb ρ e) (hij : i ≠ j := by decide) (hl : Nat.blt i ρ.length = true := by rfl) (hl2 : Nat.blt j ρ.length = true := by rfl) (hi : isIn μ i = false := by rfl) (hj : isIn μ j = false := by rfl) : SvD Γ (tPar i j (tCons ta (tCons tb tNil))) ρ μ (.nx ((ρ.set i none).set j none) ((j, e) :: (i, d) :: μ)) := fun S0 H0 F S H σ k0 n f s m Dn q =>
  ha σ S H s n.ok _ fun p S1 H1 o n1 hp hs ho a => hb σ S1 H1 (s.mono n1.ex) n1.ok _ fun p2 S2 H2 o2 n2 hp2 hs2 ho2 b => by
    have m1 : Mu S1 H1 H0 (σ.set i (some (V.ref p))) ((i, d) :: μ) := (m.step k0 n1).put (not_in hi) (by rw [s.len]; exact Nat.le_of_ble_eq_true hl) (live_of n hp) hs ho a fun l x hl z => by
      obtain ⟨p', o', h1, _, _, h4, _⟩ := m.at_ l x hl
      rw [h1] at z; cases z
      rw [hp] at h4; cases h4
    have hj' : j ∉ ((i, d) :: μ).map (·.1) := fun z => by
      rcases List.mem_cons.mp z with z | z
      · exact hij z.symm
      · exact not_in hj z
    refine ⟨_, _, rfl, q _ S2 H2 ((n.trans n1).trans n2) (f.trans (n1.ex.trans n2.ex)) (((s.mono (n1.ex.trans n2.ex)).setN i _).setN j _) ((m1.step k0 n2).put hj' (by rw [List.length_set, s.len]; exact Nat.le_of_ble_eq_true hl2) (live_of (n.trans n1) hp2) hs2 ho2 b fun l x hl z => ?_)⟩
    obtain ⟨p', o', h1, _, _, h4, _⟩ := m1.at_ l x hl
    rw [h1] at z; cases z
    rw [hp2] at h4; cases h4
/-! ### {k: v for ..} -/
theorem putD_new {kvs : List (Str × D)} {x : Str} (d : D) (h : x ∉ kvs.map (·.1)) : putD kvs x d = kvs ++ [(x, d)] := by
  unfold putD
  rw [if_neg]
  intro z
  obtain ⟨p, hp, e⟩ := List.any_eq_true.mp z
  exact h (List.mem_map.mpr ⟨p, hp, of_decide_eq_true e⟩)
theorem ev_dc {β : Type} {wi : TI} {g : TG} {vs : List Nat} {xs : List β} {enc : β → D} {kx : β → Str} {h : β → D} (hw : WvD Γ wi ρ (xs.map enc)) (hnd : (xs.map kx).Nodup)
    (hb : ∀ x ∈ xs, ∃ ρ', GvD Γ g vs (wipeD ρ vs) (enc x) ρ' ∧ EvD Γ tk ρ' (.str (kx x)) ∧ EvD Γ tv ρ' (h x)) (hz : xs.length ≤ 90000) : EvN Γ (tDc wi g tYes tk tv vs) ρ (.dic (xs.map fun x => (kx x, h x))) := fun σ S H s k Q q => hw σ S H s k _ fun J S1 H1 n1 w => by
  intro Dl hD
  have hS1 := n1.ok.fresh hD
  refine ⟨fun i m H' => m = xs.length - i ∧ i ≤ xs.length ∧ ∃ S' acc, Nx Γ S1 H1 S' H' ∧ S' Dl = none ∧ H' Dl = some (.dK acc) ∧ AtKv S' acc ((xs.take i).map fun x => (kx x, h x)),
    ⟨xs.length, rfl, Nat.zero_le _, S1, [], .hid n1.ok hD _, hS1, upd_same, by simpa using AtKv.nil⟩, ?_⟩
  rintro i m H' ⟨rfl, hi, S', acc, n2, hs, hd, al⟩
  have e2 := n2.ex
  by_cases hlt : i < xs.length
  · refine .inr ⟨w.go i S' H' (by simpa using hlt) e2 n2.ok, fun H'' => i + 1 ≤ xs.length ∧ ∃ S' acc, Nx Γ S1 H1 S' H'' ∧ S' Dl = none ∧ H'' Dl = some (.dK acc) ∧ AtKv S' acc ((xs.take (i + 1)).map fun x => (kx x, h x)),
      fun H'' z => ⟨xs.length - (i + 1), by omega, rfl, z.1, z.2⟩, fun x H'' y => ?_⟩
    obtain ⟨S3, d, n3, hdx, ad⟩ := w.yld i x S' H' H'' (by simpa using hlt) e2 n2.ok y
    have hx : xs[i]? = some xs[i] := List.getElem?_eq_getElem hlt
    rw [List.getElem?_map, hx] at hdx
    cases hdx
    obtain ⟨ρ', hg, hk, hv⟩ := hb xs[i] (List.getElem_mem hlt)
    have sW : Sl S3 (L2.wipe σ vs) (wipeD ρ vs) := (s.mono (n1.ex.trans (e2.trans n3.ex))).wipe vs
    refine hg x _ S3 H'' ad sW n3.ok _ fun σ2 s2 l2 ag => ⟨by rw [wipe_agree (τ := L2.wipe σ vs) l2 ag, wipe_wipe], ?_⟩
    show tk σ2 H'' _
    refine hk σ2 S3 H'' s2 n3.ok _ fun y1 S4 H4 n4 a4 => ?_
    cases a4
    refine hv σ2 S4 H4 (s2.mono n4.ex) n4.ok _ fun v S5 H5 n5 a5 => ?_
    have n35 := (n3.trans n4).trans n5
    have hd5 : H5 Dl = some (.dK acc) := n35.fr _ _ (n1.ok.nb hD) hd
    have hs5 : S5 Dl = none := (n35.old Dl (by rw [hd]; exact fun z => nomatch z)).trans hs
    have al5 := al.mono n35.ex
    refine ⟨acc, Sum.inr (kx xs[i]), rfl, hd5, ?_, hlt, S5, putK acc (Sum.inr (kx xs[i])) v, (n2.trans n35).mut hD hs5 hd5 (fun z => z) n1.ok _, hs5, upd_same, ?_⟩
    · have := al.length
      rw [List.length_map, List.length_take] at this
      exact szlt (by omega)
    · have e0 : xs.take (i + 1) = xs.take i ++ [xs[i]] := by rw [List.take_add_one, hx]; rfl
      have e1 : (xs.take (i + 1)).map (fun x => (kx x, h x)) = putD ((xs.take i).map fun x => (kx x, h x)) (kx xs[i]) (h xs[i]) := by
        rw [putD_new, e0, List.map_append]
        · rfl
        · rw [List.map_map]
          have e3 : ((fun p : Str × D => p.1) ∘ fun x => (kx x, h x)) = kx := rfl
          rw [e3]
          intro z
          have e4 : xs = xs.take i ++ xs[i] :: xs.drop (i + 1) := by rw [← List.drop_eq_getElem_cons hlt]; exact (List.take_append_drop i xs).symm
          rw [e4, List.map_append, List.map_cons] at hnd
          exact (List.nodup_append.mp hnd).2.2 _ z _ List.mem_cons_self rfl
      rw [e1]
      exact al5.put a5
  · have e : i = xs.length := by omega
    subst e
    refine .inl ⟨by simpa using w.stop S' H' e2 n2.ok, q Dl S' H' (.dK acc) (n1.trans n2) (live_of n1 hD) hs hd ?_⟩
    rw [List.take_length] at al
    exact .dK al
/-- d.get(x, e) -/
theorem ev_dget2 {tx : TE} {kvs : List (Str × D)} {x : Str} (h : EvD Γ td ρ (.dic kvs)) (hy : EvD Γ ty ρ (.str x)) (hx : EvD Γ tx ρ e) : EvD Γ (tDGet2 td ty tx) ρ ((kvs.lookup x).getD e) := fun σ S H s k Q q =>
  h σ S H s k _ fun v S1 H1 n1 a => by
    cases a with
    | dic e1 al =>
      refine ⟨_, rfl, .inl ⟨_, .of (n1.ok.ex _ _ e1)⟩, ?_⟩
      refine hy σ S1 H1 (s.mono n1.ex) n1.ok _ fun y S2 H2 n2 b => ?_
      cases b
      refine hx σ S2 H2 (s.mono (n1.ex.trans n2.ex)) n2.ok _ fun z S3 H3 n3 c => ?_
      refine ⟨_, DGet.k (k := Sum.inr x) (n3.ok.ex _ _ (n3.ex _ _ (n2.ex _ _ e1))), q _ S3 H3 ((n1.trans n2).trans n3) ?_⟩
      rcases al.look (x := x) with ⟨v, d', h1, h2, h3⟩ | ⟨h1, h2⟩
      · rw [h1, h2]; exact h3.mono (n2.ex.trans n3.ex)
      · rw [h1, h2]; exact c
end
end CW
/-! W7 -/
/-! W7: == of lists, tuples of scalars and of such. -/
namespace CW
open PySem PySem.Spec PyProof.Rows L2
section
variable {β : Type} {enc : β → D}
theorem pyAll_map (xs : List β) : pyAll (xs.map enc) = xs.map fun x => (enc x).py := by
  induction xs with
  | nil => simp [pyAll]
  | cons a xs ih => simp [pyAll, ih]
theorem okAll_map {xs : List β} (h : ∀ x ∈ xs, (enc x).ok = true) : okAll (xs.map enc) = true := by
  induction xs with
  | nil => simp [okAll]
  | cons a xs ih => simp [okAll, h a List.mem_cons_self, ih fun x hx => h x (List.mem_cons_of_mem _ hx)]
theorem dep_map {xs : List β} {k : Nat} (h : ∀ x ∈ xs, (enc x).py.depth ≤ k) : PyData.depthAll (pyAll (xs.map enc)) ≤ k := by
  induction xs with
  | nil => simp [pyAll, PyData.depthAll]
  | cons a xs ih =>
    have h1 := h a List.mem_cons_self
    have h2 := ih fun x hx => h x (List.mem_cons_of_mem _ hx)
    simp only [List.map_cons, pyAll, PyData.depthAll]
    exact Nat.max_le.mpr ⟨h1, h2⟩
/-- fit for ==, of a depth -/
structure Eqk (k : Nat) (d : D) : Prop where
  ok : d.ok = true
  dep : d.py.depth ≤ k
theorem Eqk.b {k : Nat} {d : D} (h : Eqk k d) (hk : Nat.ble k 64 = true := by rfl) : Eqb d := ⟨h.ok, Nat.le_trans h.dep (Nat.le_of_ble_eq_true hk)⟩
theorem eqk_lst {k : Nat} {xs : List β} (h : ∀ x ∈ xs, Eqk k (enc x)) : Eqk (k + 1) (.lst (xs.map enc)) := by
  refine ⟨by simp only [D.ok]; exact okAll_map fun x hx => (h x hx).ok, ?_⟩
  simp only [D.py, PyData.depth]
  exact Nat.succ_le_succ (dep_map fun x hx => (h x hx).dep)
theorem eqk_tup {k : Nat} {xs : List β} (h : ∀ x ∈ xs, Eqk k (enc x)) : Eqk (k + 1) (.tup (xs.map enc)) := by
  refine ⟨by simp only [D.ok]; exact okAll_map fun x hx => (h x hx).ok, ?_⟩
  simp only [D.py, PyData.depth]
  exact Nat.succ_le_succ (dep_map fun x hx => (h x hx).dep)
theorem eqk_nil {k : Nat} : Eqk (k + 1) (.lst []) := eqk_lst (xs := ([] : List D)) (enc := id) fun x hx => nomatch hx
theorem eqk_nilT {k : Nat} : Eqk (k + 1) (.tup []) := eqk_tup (xs := ([] : List D)) (enc := id) fun x hx => nomatch hx
theorem eqk_int {k : Nat} (i : Int) : Eqk k (.int i) := ⟨by simp only [D.ok], by simp only [D.py, PyData.depth]; exact Nat.zero_le _⟩
theorem eqk_str {k : Nat} {x : Str} (h : PyData.strOk x = true) : Eqk k (.str x) := ⟨by simp only [D.ok]; exact h, by simp only [D.py, PyData.depth]; exact Nat.zero_le _⟩
/-- == of equal forms -/
def EqOn (enc : β → D) (P : β → Prop) [DecidableEq β] : Prop := ∀ x y, P x → P y → PyData.eqv (enc x).py (enc y).py = decide (x = y)
theorem eqvAll_map [DecidableEq β] {P : β → Prop} (h : EqOn enc P) : ∀ xs ys : List β, (∀ x ∈ xs, P x) → (∀ y ∈ ys, P y) → PyData.eqvAll (pyAll (xs.map enc)) (pyAll (ys.map enc)) = decide (xs = ys)
  | [], [], _, _ => by simp [pyAll, PyData.eqvAll]
  | [], _ :: _, _, _ => by simp [pyAll, PyData.eqvAll]
  | _ :: _, [], _, _ => by simp [pyAll, PyData.eqvAll]
  | x :: xs, y :: ys, hx, hy => by
    simp only [List.map_cons, pyAll, PyData.eqvAll]
    rw [h x y (hx x List.mem_cons_self) (hy y List.mem_cons_self), eqvAll_map h xs ys (fun z hz => hx z (List.mem_cons_of_mem _ hz)) (fun z hz => hy z (List.mem_cons_of_mem _ hz))]
    by_cases e1 : x = y
    · by_cases e2 : xs = ys
      · simp [e1, e2]
      · simp [e1, e2]
    · simp [e1]
theorem eqOn_str : EqOn D.str (fun _ => True) := fun x y _ _ => by
  simp only [D.py, PyData.eqv]
  by_cases e : x = y
  · subst e; simp
  · rw [decide_eq_false e]; simpa using e
theorem eqOn_int : EqOn D.int (fun _ => True) := fun x y _ _ => by
  simp only [D.py, PyData.eqv]
  by_cases e : x = y
  · subst e; simp
  · rw [decide_eq_false e]; simpa using e
theorem eqOn_lst [DecidableEq β] {P : β → Prop} (h : EqOn enc P) : EqOn (fun xs : List β => D.lst (xs.map enc)) (fun xs => ∀ x ∈ xs, P x) := fun xs ys hx hy => by
  simp only [D.py, PyData.eqv]; exact eqvAll_map h xs ys hx hy
theorem eqOn_tup [DecidableEq β] {P : β → Prop} (h : EqOn enc P) : EqOn (fun xs : List β => D.tup (xs.map enc)) (fun xs => ∀ x ∈ xs, P x) := fun xs ys hx hy => by
  simp only [D.py, PyData.eqv]; exact eqvAll_map h xs ys hx hy
theorem eqv_nil (xs : List β) : PyData.eqv (D.lst (xs.map enc)).py (D.lst []).py = xs.isEmpty := by
  cases xs <;> simp [D.py, pyAll, PyData.eqv, PyData.eqvAll]
theorem eqv_nilT (xs : List β) : PyData.eqv (D.tup (xs.map enc)).py (D.tup []).py = xs.isEmpty := by
  cases xs <;> simp [D.py, pyAll, PyData.eqv, PyData.eqvAll]
end
section
variable {Γ : Gam} {K : PySem.W.Frag} {β : Type} {enc : β → D} {xs ys : List β} {k : Nat}
theorem rd_isNil (h : Eqk k (.lst (xs.map enc))) (hk : Nat.ble k 64 = true := by rfl) : RD2 Γ (rEqD K) (.lst (xs.map enc)) (.lst []) (.bl xs.isEmpty) := by
  rw [← eqv_nil (enc := enc) xs]
  exact rd_eqD (h.b hk) (eqk_nil (k := 0)).b
theorem rd_notNil (h : Eqk k (.lst (xs.map enc))) (hk : Nat.ble k 64 = true := by rfl) : RD2 Γ (rNeD K) (.lst (xs.map enc)) (.lst []) (.bl (!xs.isEmpty)) := by
  rw [← eqv_nil (enc := enc) xs]
  exact rd_neD (h.b hk) (eqk_nil (k := 0)).b
theorem rd_isNilT (h : Eqk k (.tup (xs.map enc))) (hk : Nat.ble k 64 = true := by rfl) : RD2 Γ (rEqD K) (.tup (xs.map enc)) (.tup []) (.bl xs.isEmpty) := by
  rw [← eqv_nilT (enc := enc) xs]
  exact rd_eqD (h.b hk) (eqk_nilT (k := 0)).b
theorem rd_notNilT (h : Eqk k (.tup (xs.map enc))) (hk : Nat.ble k 64 = true := by rfl) : RD2 Γ (rNeD K) (.tup (xs.map enc)) (.tup []) (.bl (!xs.isEmpty)) := by
  rw [← eqv_nilT (enc := enc) xs]
  exact rd_neD (h.b hk) (eqk_nilT (k := 0)).b
theorem rd_eqE {β : Type} [DecidableEq β] {enc : β → D} {P : β → Prop} {x y : β} (h : EqOn enc P) (hx : P x) (hy : P y) (kx : Eqk k (enc x)) (ky : Eqk k (enc y)) (hk : Nat.ble k 64 = true := by rfl) : RD2 Γ (rEqD K) (enc x) (enc y) (.bl (decide (x = y))) := by
  rw [← h x y hx hy]
  exact rd_eqD (kx.b hk) (ky.b hk)
theorem rd_neE {β : Type} [DecidableEq β] {enc : β → D} {P : β → Prop} {x y : β} (h : EqOn enc P) (hx : P x) (hy : P y) (kx : Eqk k (enc x)) (ky : Eqk k (enc y)) (hk : Nat.ble k 64 = true := by rfl) : RD2 Γ (rNeD K) (enc x) (enc y) (.bl (!decide (x = y))) := by
  rw [← h x y hx hy]
  exact rd_neD (kx.b hk) (ky.b hk)
end
end CW
/-! M0 -/
/-! M0: the mirrors of the program's defs, over any posts. -/
namespace CT
variable {α : Type} [DecidableEq α]
section
variable (ps : List α) (n : α → α → Bool)
def tied (x : α) : List α := (ps.filter fun y => n x y).filter fun y => !decide (y = x)
def leftNear (x : α) (left : List α) : List α := (tied ps n x).filter fun y => decide (y ∈ left)
def areNear (xs : List α) : Bool := (xs.flatMap fun a => xs.map fun b => n a b).all id
def free (left : List α) : List α := left.filter fun x => areNear n (leftNear ps n x left)
/-- peeling off: found, left -/
def peelStep (s : List α × List α) : List α × List α := match free ps n s.2 with
  | [] => s
  | x :: _ => (s.1 ++ [x], s.2.erase x)
def peelIt : Nat → List α × List α
  | 0 => ([], ps)
  | k + 1 => peelStep ps n (peelIt k)
def peeled : List α × List α := peelIt ps n ps.length
def peelingOf : Option (List α) := if (peeled ps n).2 = [] then some (peeled ps n).1 else none
def laterNear (p : List α) : List (α × List α) := p.zipIdx.map fun q => (q.1, leftNear ps n q.1 (p.drop (q.2 + 1)))
/-! ### ways -/
abbrev Ways (α : Type) := List (α × List α)
def visit (here : α) (s : Ways α × List α) (post : α) : Ways α × List α :=
  if (s.1.lookup post).isSome then s else (s.1 ++ [(post, ((s.1.lookup here).getD []) ++ [post])], s.2 ++ [post])
def bfsStep (left : List α) (fin : α) (s : Ways α × List α) : Ways α × List α := match s.2 with
  | [] => s
  | h :: t => (leftNear ps n h (left ++ [fin])).foldl (visit h) (s.1, t)
def bfsIt (left : List α) (begin fin : α) : Nat → Ways α × List α
  | 0 => ([(begin, [begin])], [begin])
  | k + 1 => bfsStep ps n left fin (bfsIt left begin fin k)
def wayBetween (left : List α) (begin fin : α) : Option (List α) := (bfsIt ps n left begin fin (ps.length + 1)).1.lookup fin
def freeOf (left : List α) (post : α) : List α := left.filter fun s => !decide (s = post) && !n s post
def ringPair (left : List α) (post one other : α) : Option (List α) :=
  if n one other then none else (wayBetween ps n (one :: freeOf n left post) one other).map fun way => post :: way
def ringAt (left : List α) (post : α) : Option (List α) :=
  (leftNear ps n post left).zipIdx.findSome? fun q => ((leftNear ps n post left).drop (q.2 + 1)).findSome? fun other => ringPair ps n left post q.1 other
def longRing : Option (List α) := (peeled ps n).2.findSome? fun post => ringAt ps n (peeled ps n).2 post
/-! ### crowds -/
def ord (xs : List α) : List α := ps.filter fun y => decide (y ∈ xs)
def isCrowd (v : List α) : Bool := !v.isEmpty && areNear n v && !((ps.filter fun y => !decide (y ∈ v)).any fun p => v.all fun q => n p q)
def crowdsRaw (p : List α) : List (List α) := ((laterNear ps n p).map fun q => ord ps (q.1 :: q.2)).filter fun c => isCrowd ps n c
end
end CT
/-! M1 -/
/-! M1: near relations, Dirac's lemma (a set without a vertex whose neighbours are near one another has a long ring). -/
namespace CT
variable {α : Type} [DecidableEq α]
/-! ### counting -/
theorem len_le_of_sub {l m : List α} (hn : l.Nodup) (hs : ∀ x ∈ l, x ∈ m) : l.length ≤ m.length := by
  induction l generalizing m with
  | nil => exact Nat.zero_le _
  | cons a l ih =>
    have ha : a ∈ m := hs a List.mem_cons_self
    have hn' := List.nodup_cons.mp hn
    have h1 : l.length ≤ (m.erase a).length := ih hn'.2 fun x hx => by
      have hxa : x ≠ a := fun e => hn'.1 (e ▸ hx)
      exact (List.mem_erase_of_ne hxa).mpr (hs x (List.mem_cons_of_mem _ hx))
    have h2 := List.length_erase_of_mem ha
    have h3 : 0 < m.length := List.length_pos_of_mem ha
    simp only [List.length_cons]; omega
/-! ### reach -/
/-- from a to b by near steps, all but the first within P -/
inductive Reach (n : α → α → Bool) (P : α → Prop) : α → α → Prop where
  | refl (a : α) : Reach n P a a
  | step {a b c : α} : Reach n P a b → n b c = true → P c → Reach n P a c
section
variable {n : α → α → Bool} {P Q : α → Prop}
theorem Reach.mono (h : ∀ x, P x → Q x) {a b : α} (r : Reach n P a b) : Reach n Q a b := by
  induction r with
  | refl => exact .refl _
  | step _ e p ih => exact .step ih e (h _ p)
theorem Reach.trans {a b c : α} (r : Reach n P a b) (s : Reach n P b c) : Reach n P a c := by
  induction s with
  | refl => exact r
  | step _ e p ih => exact .step ih e p
theorem Reach.last {a b : α} (r : Reach n P a b) (h : P a) : P b := by
  cases r with
  | refl => exact h
  | step _ _ p => exact p
theorem Reach.symm (sy : ∀ x y, n x y = n y x) {a b : α} (r : Reach n P a b) (h : P a) : Reach n P b a := by
  induction r with
  | refl => exact .refl _
  | @step b c r e p ih =>
    have h1 : Reach n P c b := .step (.refl _) (by rw [sy]; exact e) (r.last h)
    exact h1.trans ih
/-- the way stays among what is reached -/
theorem Reach.within {a b : α} (r : Reach n P a b) : Reach n (fun z => Reach n P a z) a b := by
  induction r with
  | refl => exact .refl _
  | step r e p ih => exact .step ih e (.step r e p)
end
open Classical in
/-- the members of L that are not near v and reached from u among such -/
noncomputable def comp (n : α → α → Bool) (L : List α) (v u : α) : List α :=
  L.filter fun z => decide (Reach n (fun t => t ∈ L ∧ n t v = false) u z)
section
variable {n : α → α → Bool}
theorem mem_comp {L : List α} {v u z : α} : z ∈ comp n L v u ↔ z ∈ L ∧ Reach n (fun t => t ∈ L ∧ n t v = false) u z := by
  unfold comp; simp
/-- two vertices v, u not near whose component is as large as can be -/
theorem exists_max {β : Type} (l : List β) (f : β → Nat) (h : l ≠ []) : ∃ b ∈ l, ∀ c ∈ l, f c ≤ f b := by
  induction l with
  | nil => exact absurd rfl h
  | cons a l ih =>
    by_cases hl : l = []
    · subst hl; exact ⟨a, List.mem_cons_self, fun c hc => by simp at hc; subst hc; exact Nat.le_refl _⟩
    · obtain ⟨b, hb, hm⟩ := ih hl
      by_cases q : f a ≤ f b
      · exact ⟨b, List.mem_cons_of_mem _ hb, fun c hc => by
          rcases List.mem_cons.mp hc with rfl | hc
          · exact q
          · exact hm c hc⟩
      · exact ⟨a, List.mem_cons_self, fun c hc => by
          rcases List.mem_cons.mp hc with rfl | hc
          · exact Nat.le_refl _
          · have := hm c hc; omega⟩
/-- Dirac: where no two neighbours a, b of a vertex x that are not near are joined by a way whose inner vertices are not near x, some vertex has neighbours that are all near one another -/
theorem simplicial (rf : ∀ x, n x x = true) (sy : ∀ x y, n x y = n y x) : ∀ (k : Nat) (L : List α), L.Nodup → L.length ≤ k → L ≠ [] →
    (∀ x ∈ L, ∀ a ∈ L, ∀ b ∈ L, n x a = true → n x b = true → n a b = false → ¬ Reach n (fun z => z = b ∨ (z ∈ L ∧ n z x = false)) a b) →
    ∃ x ∈ L, ∀ a ∈ L, ∀ b ∈ L, n x a = true → n x b = true → n a b = true := by
  intro k
  induction k with
  | zero => intro L _ hk hne _; exact absurd (List.eq_nil_of_length_eq_zero (Nat.le_zero.mp hk)) hne
  | succ k ih =>
    intro L hnd hk hne hno
    by_cases hall : ∀ a ∈ L, ∀ b ∈ L, n a b = true
    · obtain ⟨x, hx⟩ := List.exists_mem_of_ne_nil L hne
      exact ⟨x, hx, fun a ha b hb _ _ => hall a ha b hb⟩
    · -- pairs (v, u) of vertices that are not near
      let pairs : List (α × α) := (L.flatMap fun v => L.map fun u => (v, u)).filter fun p => !n p.2 p.1
      have mem_pairs : ∀ v u, (v, u) ∈ pairs ↔ v ∈ L ∧ u ∈ L ∧ n u v = false := fun v u => by
        simp only [pairs, List.mem_filter, List.mem_flatMap, List.mem_map, Prod.mk.injEq, Bool.not_eq_true']
        constructor
        · rintro ⟨⟨v', hv, u', hu, rfl, rfl⟩, h⟩; exact ⟨hv, hu, h⟩
        · rintro ⟨hv, hu, h⟩; exact ⟨⟨v, hv, u, hu, rfl, rfl⟩, h⟩
      have hp : pairs ≠ [] := by
        intro e
        apply hall
        intro a ha b hb
        cases q : n a b with
        | true => rfl
        | false =>
          have : (b, a) ∈ pairs := (mem_pairs b a).mpr ⟨hb, ha, q⟩
          rw [e] at this; cases this
      obtain ⟨⟨v, u⟩, hvu, hmax⟩ := exists_max pairs (fun p => (comp n L p.1 p.2).length) hp
      obtain ⟨hv, hu, nuv⟩ := (mem_pairs v u).mp hvu
      -- C, S, D
      have hC : ∀ z, z ∈ comp n L v u → z ∈ L ∧ n z v = false ∧ Reach n (fun t => t ∈ comp n L v u) u z := fun z hz => by
        obtain ⟨h1, h2⟩ := mem_comp.mp hz
        have h3 := h2.last (P := fun t => t ∈ L ∧ n t v = false) ⟨hu, nuv⟩
        refine ⟨h1, h3.2, ?_⟩
        refine h2.within.mono fun t ht => mem_comp.mpr ⟨(ht.last (P := fun t => t ∈ L ∧ n t v = false) ⟨hu, nuv⟩).1, ht⟩
      have huC : u ∈ comp n L v u := mem_comp.mpr ⟨hu, .refl _⟩
      -- what is near C, but not in C, is near v
      have hS : ∀ s ∈ L, s ∉ comp n L v u → ∀ c ∈ comp n L v u, n s c = true → n s v = true := fun s hs hsC c hc hsc => by
        cases q : n s v with
        | true => rfl
        | false => exact absurd (mem_comp.mpr ⟨hs, .step (mem_comp.mp hc).2 (by rw [sy]; exact hsc) ⟨hs, q⟩⟩) hsC
      -- a, b beside C are near
      have hSS : ∀ a ∈ L, a ∉ comp n L v u → (∃ c ∈ comp n L v u, n a c = true) → ∀ b ∈ L, b ∉ comp n L v u → (∃ c ∈ comp n L v u, n b c = true) → n a b = true := by
        rintro a ha haC ⟨c, hc, hac⟩ b hb hbC ⟨d, hd, hbd⟩
        cases q : n a b with
        | true => rfl
        | false =>
          refine absurd ?_ (hno v hv a ha b hb (by rw [sy]; exact hS a ha haC c hc hac) (by rw [sy]; exact hS b hb hbC d hd hbd) q)
          have inC : ∀ z, z ∈ comp n L v u → z = b ∨ (z ∈ L ∧ n z v = false) := fun z hz => .inr ⟨(hC z hz).1, (hC z hz).2.1⟩
          have r1 : Reach n (fun z => z = b ∨ (z ∈ L ∧ n z v = false)) a c := .step (.refl _) hac (inC c hc)
          have r2 : Reach n (fun z => z ∈ comp n L v u) c u := ((hC c hc).2.2).symm sy huC
          have r3 := r2.trans (hC d hd).2.2
          exact .step (r1.trans (r3.mono inC)) (by rw [sy]; exact hbd) (.inl rfl)
      let D := L.filter fun d => decide (d ∉ comp n L v u) && (comp n L v u).all fun c => !n d c
      have mem_D : ∀ d, d ∈ D ↔ d ∈ L ∧ d ∉ comp n L v u ∧ ∀ c ∈ comp n L v u, n d c = false := fun d => by
        simp only [D, List.mem_filter, Bool.and_eq_true, decide_eq_true_eq, List.all_eq_true, Bool.not_eq_true']
      have hvC : v ∉ comp n L v u := fun h => by
        have h2 := (hC v h).2.1
        rw [rf] at h2
        exact Bool.noConfusion h2
      have hvD : v ∈ D := (mem_D v).mpr ⟨hv, hvC, fun c hc => (sy v c).trans (hC c hc).2.1⟩
      have huD : u ∉ D := fun h => ((mem_D u).mp h).2.1 huC
      have hDn : D.Nodup := hnd.filter _
      have hDl : D.length < L.length := by
        have h1 : (u :: D).length ≤ L.length := len_le_of_sub (List.nodup_cons.mpr ⟨huD, hDn⟩) fun x hx => by
          rcases List.mem_cons.mp hx with rfl | hx
          · exact hu
          · exact ((mem_D x).mp hx).1
        exact h1
      -- each of D is near each vertex beside C
      have hDS : ∀ d ∈ D, ∀ s ∈ L, s ∉ comp n L v u → (∃ c ∈ comp n L v u, n s c = true) → n s d = true := by
        rintro d hd s hs hsC ⟨c, hc, hsc⟩
        cases q : n s d with
        | true => rfl
        | false =>
          obtain ⟨hdL, hdC, hdn⟩ := (mem_D d).mp hd
          have sub : ∀ z ∈ comp n L v u, z ∈ comp n L d u := fun z hz =>
            mem_comp.mpr ⟨(hC z hz).1, (hC z hz).2.2.mono fun t ht => ⟨(hC t ht).1, by rw [sy]; exact hdn t ht⟩⟩
          have hs2 : s ∈ comp n L d u := mem_comp.mpr ⟨hs, .step (mem_comp.mp (sub c hc)).2 (by rw [sy]; exact hsc) ⟨hs, q⟩⟩
          have nd1 : (comp n L v u).Nodup := hnd.filter _
          have h1 : (s :: comp n L v u).length ≤ (comp n L d u).length := len_le_of_sub (List.nodup_cons.mpr ⟨hsC, nd1⟩) fun x hx => by
            rcases List.mem_cons.mp hx with rfl | hx
            · exact hs2
            · exact sub x hx
          have h2 : (comp n L d u).length ≤ (comp n L v u).length := hmax (d, u) ((mem_pairs d u).mpr ⟨hdL, hu, by rw [sy]; exact hdn u huC⟩)
          simp only [List.length_cons] at h1
          omega
      obtain ⟨x, hxD, hx⟩ := ih D hDn (by omega) (List.ne_nil_of_mem hvD) fun x hx a ha b hb h1 h2 h3 r =>
        hno x ((mem_D x).mp hx).1 a ((mem_D a).mp ha).1 b ((mem_D b).mp hb).1 h1 h2 h3 (r.mono fun z hz => hz.elim .inl fun hz => .inr ⟨((mem_D z).mp hz.1).1, hz.2⟩)
      obtain ⟨hxL, hxC, hxn⟩ := (mem_D x).mp hxD
      refine ⟨x, hxL, ?_⟩
      -- a neighbour of x is beside C or in D
      have cases' : ∀ a ∈ L, n x a = true → a ∉ comp n L v u ∧ ((∃ c ∈ comp n L v u, n a c = true) ∨ a ∈ D) := fun a ha hxa => by
        have haC : a ∉ comp n L v u := fun h => by have := hxn a h; rw [hxa] at this; cases this
        refine ⟨haC, ?_⟩
        by_cases q : ∃ c ∈ comp n L v u, n a c = true
        · exact .inl q
        · refine .inr ((mem_D a).mpr ⟨ha, haC, fun c hc => ?_⟩)
          cases r : n a c with
          | false => rfl
          | true => exact absurd ⟨c, hc, r⟩ q
      intro a ha b hb hxa hxb
      obtain ⟨haC, ha'⟩ := cases' a ha hxa
      obtain ⟨hbC, hb'⟩ := cases' b hb hxb
      rcases ha' with ha' | ha'
      · rcases hb' with hb' | hb'
        · exact hSS a ha haC ha' b hb hbC hb'
        · exact hDS b hb' a ha haC ha'
      · rcases hb' with hb' | hb'
        · rw [sy]; exact hDS a ha' b hb hbC hb'
        · exact hx a ha' b hb' hxa hxb
end
end CT
/-! M2 -/
/-! M2: what peeling off leaves. -/
namespace CT
variable {α : Type} [DecidableEq α]
theorem least (p : Nat → Prop) [DecidablePred p] : ∀ m : Nat, (∀ i, i < m → ¬ p i) ∨ ∃ k, k < m ∧ (∀ i, i < k → ¬ p i) ∧ p k
  | 0 => .inl fun i h => absurd h (Nat.not_lt_zero i)
  | m + 1 => by
    rcases least p m with h | ⟨k, h1, h2, h3⟩
    · by_cases q : p m
      · exact .inr ⟨m, Nat.lt_succ_self m, h, q⟩
      · refine .inl fun i hi => ?_
        rcases Nat.lt_succ_iff_lt_or_eq.mp hi with h' | rfl
        · exact h i h'
        · exact q
    · exact .inr ⟨k, Nat.lt_succ_of_lt h1, h2, h3⟩
section
variable {ps : List α} {n : α → α → Bool}
theorem free_mem {left : List α} {x : α} (h : x ∈ free ps n left) : x ∈ left ∧ areNear n (leftNear ps n x left) = true := List.mem_filter.mp h
theorem peelIt_stop {k : Nat} (h : free ps n (peelIt ps n k).2 = []) : ∀ j, k ≤ j → peelIt ps n j = peelIt ps n k := by
  intro j hj
  induction j with
  | zero => rw [Nat.le_zero.mp hj]
  | succ j ih =>
    by_cases e : k = j + 1
    · rw [e]
    · have h2 := ih (by omega)
      show peelStep ps n (peelIt ps n j) = _
      rw [h2]
      unfold peelStep
      rw [h]
theorem peelStep_some {s : List α × List α} {x : α} {r : List α} (h : free ps n s.2 = x :: r) : peelStep ps n s = (s.1 ++ [x], s.2.erase x) := by
  unfold peelStep; rw [h]
/-- what is peeled off and what is left are the posts -/
theorem peelIt_inv (hn : ps.Nodup) (k : Nat) : ((peelIt ps n k).1 ++ (peelIt ps n k).2).Perm ps ∧ (peelIt ps n k).2.Sublist ps := by
  induction k with
  | zero => exact ⟨List.Perm.refl _, List.Sublist.refl _⟩
  | succ k ih =>
    obtain ⟨h1, h2⟩ := ih
    show ((peelStep ps n (peelIt ps n k)).1 ++ (peelStep ps n (peelIt ps n k)).2).Perm ps ∧ (peelStep ps n (peelIt ps n k)).2.Sublist ps
    cases hf : free ps n (peelIt ps n k).2 with
    | nil => unfold peelStep; rw [hf]; exact ⟨h1, h2⟩
    | cons x r =>
      rw [peelStep_some hf]
      have hx : x ∈ (peelIt ps n k).2 := (free_mem (by rw [hf]; exact List.mem_cons_self)).1
      refine ⟨?_, List.erase_sublist.trans h2⟩
      refine List.Perm.trans ?_ h1
      show (((peelIt ps n k).1 ++ [x]) ++ (peelIt ps n k).2.erase x).Perm ((peelIt ps n k).1 ++ (peelIt ps n k).2)
      rw [List.append_assoc]
      exact List.Perm.append_left _ (List.perm_cons_erase hx).symm
theorem peelIt_len {k : Nat} (h : ∀ i, i < k → free ps n (peelIt ps n i).2 ≠ []) : (peelIt ps n k).2.length + k = ps.length ∧ (peelIt ps n k).1.length = k := by
  induction k with
  | zero => exact ⟨rfl, rfl⟩
  | succ k ih =>
    obtain ⟨h1, h2⟩ := ih fun i hi => h i (Nat.lt_succ_of_lt hi)
    show (peelStep ps n (peelIt ps n k)).2.length + (k + 1) = ps.length ∧ (peelStep ps n (peelIt ps n k)).1.length = k + 1
    cases hf : free ps n (peelIt ps n k).2 with
    | nil => exact absurd hf (h k (Nat.lt_succ_self k))
    | cons x r =>
      rw [peelStep_some hf]
      have hx : x ∈ (peelIt ps n k).2 := (free_mem (by rw [hf]; exact List.mem_cons_self)).1
      have hl := List.length_erase_of_mem hx
      have hp := List.length_pos_of_mem hx
      refine ⟨?_, ?_⟩
      · show ((peelIt ps n k).2.erase x).length + (k + 1) = ps.length
        omega
      · show ((peelIt ps n k).1 ++ [x]).length = k + 1
        rw [List.length_append, h2]; rfl
/-- where peeling off ends -/
theorem peel_kk : ∃ kk, kk ≤ ps.length ∧ (∀ i, i < kk → free ps n (peelIt ps n i).2 ≠ []) ∧ free ps n (peelIt ps n kk).2 = [] ∧ peeled ps n = peelIt ps n kk := by
  rcases least (fun i => free ps n (peelIt ps n i).2 = []) (ps.length + 1) with h | ⟨k, h1, h2, h3⟩
  · have h4 := (peelIt_len (fun i hi => h i (Nat.lt_succ_of_lt hi)) : (peelIt ps n ps.length).2.length + ps.length = ps.length ∧ _).1
    have h5 : (peelIt ps n ps.length).2 = [] := List.eq_nil_of_length_eq_zero (by omega)
    refine absurd ?_ (h ps.length (Nat.lt_succ_self _))
    rw [h5]; rfl
  · exact ⟨k, Nat.le_of_lt_succ h1, h2, h3, peelIt_stop h3 _ (Nat.le_of_lt_succ h1)⟩
end
end CT
/-! P1 -/
/-! P1: words and maps. -/
namespace CW
open PySem PySem.Spec PyProof.Rows L2
def lettersS : Str := "abcdefghijklmnopqrstuvwxyz"
def figuresS : Str := "0123456789"
structure Kx (K : PySem.W.Frag) (mg : Str → Option Value) (C : Addr) : Prop where
  b : Bf mg
  letters : ∃ t, mg "LETTERS" = some (.str lettersS t)
  figures : ∃ t, mg "FIGURES" = some (.str figuresS t)
  cl : Cls K C
  naP : NoAttr K C "own_posts"
  naU : NoAttr K C "own_numbers"
  naN : NoAttr K C "own_near"
/-! ### isinstance -/
section
variable {Γ : Gam} {K : PySem.W.Frag}
theorem isi_strY {z : Str} : RDA Γ (rIsi K) [.str z, .ty "str"] (.bl true) := ra_isi (T := fun _ _ => True) fun v S H a e => by
  cases a; exact ⟨_, .base (.str z), kit_ty (by decide +kernel)⟩
theorem isi_tupY {ds : List D} : RDA Γ (rIsi K) [.tup ds, .ty "tuple"] (.bl true) := ra_isi (T := fun _ _ => True) fun v S H a e => by
  cases a with
  | tup h _ => exact ⟨_, .base (.tup (e _ _ h)), kit_ty (by decide +kernel)⟩
theorem isi_lstY {ds : List D} : RDA Γ (rIsi K) [.lst ds, .ty "list"] (.bl true) := ra_isi (T := fun _ _ => True) fun v S H a e => by
  cases a with
  | lst h _ => exact ⟨_, .base (.lst (e _ _ h)), kit_ty (by decide +kernel)⟩
theorem isi_intY {i : Int} : RDA Γ (rIsi K) [.int i, .ty "int"] (.bl true) := ra_isi (T := fun _ _ => True) fun v S H a e => by
  cases a; exact ⟨_, .base (.int i), kit_ty (by decide +kernel)⟩
theorem isi_intB {i : Int} : RDA Γ (rIsi K) [.int i, .ty "bool"] (.bl false) := ra_isi (T := fun _ _ => True) fun v S H a e => by
  cases a; exact ⟨_, .base (.int i), kit_ty (by decide +kernel)⟩
theorem ra_isiT {d : D} (h : ∀ v S H, At S v d → Ex S H → ∃ t, TyX K H v t ∧ PySem.W.kitAny K t [.type "list", .type "tuple"] = some true) : RDA Γ (rIsiT K) [d, .tup [.ty "list", .ty "tuple"]] (.bl true) := fun xs S H a k Q q => by
  cases a with
  | cons h1 t =>
    cases t with
    | cons h2 t =>
      cases t
      cases h2 with
      | tup e al =>
        cases al with
        | cons a1 al =>
          cases al with
          | cons a2 al =>
            cases al; cases a1; cases a2
            obtain ⟨t, ht, hk⟩ := h _ S H h1 k.ex
            exact ⟨_, _, _, t, _, true, rfl, k.ex _ _ e, .cons (.ty _) (.cons (.ty _) .nil), ht, hk, q _ S H (.refl k) (.bl true)⟩
theorem isiT_lst {ds : List D} : RDA Γ (rIsiT K) [.lst ds, .tup [.ty "list", .ty "tuple"]] (.bl true) := ra_isiT fun v S H a e => by
  cases a with
  | lst h _ => exact ⟨_, .base (.lst (e _ _ h)), kitAny_cons (b := true) (kit_ty (by decide +kernel)) (fun z => by cases z) fun _ => rfl⟩
theorem isiT_tup {ds : List D} : RDA Γ (rIsiT K) [.tup ds, .tup [.ty "list", .ty "tuple"]] (.bl true) := ra_isiT fun v S H a e => by
  cases a with
  | tup h _ => exact ⟨_, .base (.tup (e _ _ h)), kitAny_cons (b := false) (kit_ty (by decide +kernel)) (fun _ => kitAny_cons (b := true) (kit_ty (by decide +kernel)) (fun z => by cases z) fun _ => rfl) (fun z => by cases z)⟩
end
/-! ### words -/
structure Word (z : Str) : Prop where
  len : 1 ≤ z.length ∧ z.length ≤ 12
  fst : ∃ c, z.cps.toList[0]? = some c ∧ c ∈ lettersS.cps.toList
  all : ∀ c ∈ z.cps.toList, c ∈ lettersS.cps.toList ∨ c ∈ figuresS.cps.toList
def rIsWord (as : List D) (d : D) : Prop := ∃ z, as = [.str z] ∧ Word z ∧ d = .bl true
def rIsList (as : List D) (d : D) : Prop := ∃ x, as = [x] ∧ (∃ ds, x = .lst ds ∨ x = .tup ds) ∧ d = .bl true
def rIsRow (as : List D) (d : D) : Prop := ∃ ds n, as = [.tup ds, .int n] ∧ d = .bl (decide ((ds.length : Int) = n))
def rIsAmong (as : List D) (d : D) : Prop := ∃ (z : Str) (xs : List Str), (as = [.str z, .lst (xs.map .str)] ∨ as = [.str z, .tup (xs.map .str)]) ∧ Word z ∧ d = .bl (decide (z ∈ xs))
section
variable {P : Program} {w : World} {K : PySem.W.Frag} {mg : Str → Option Value} {base : Heap} {C : Addr} {f : Addr} {fd : FuncData}
theorem sc_is_word : FnScope ["value", "sign"] ["value"] (defScope (topS 23)) := ⟨rfl, rfl, rfl, by decide +kernel, rfl, by decide +kernel, by decide +kernel⟩
theorem ok_is_word (T : Kx K mg C) (F : FnP K "is_word" "is_word" (topS 23) f fd) : FnOk P w K mg base CX0 1 f fd ["value"] (spF G0 rIsWord) := by
  have nd := (sc_is_word).nd
  have B := T.b
  obtain ⟨t1, hL⟩ := T.letters
  obtain ⟨t2, hF⟩ := T.figures
  refine fn_ok F sc_is_word (fun as d ⟨z, e, _⟩ => by rw [e]; rfl) fun cdv A outer s H E hr => ?_
  refine ⟨_, (pss_cons (ps_if (PW.pt (pw_or (pt_not (pt_val (w_isi K B (pa_cons (pv 0) (pa_cons (pe_bltn (v := .ty "str") (by rfl) B.str (by decide +kernel) rfl) pa_nil))))) (pw_or (pt_cmpR op_notIn_rng (pe_callB call_len_str (by rfl) B.len PySem.boot_len (pa_cons (pv 0) pa_nil)) (pe_callTy cr_range2 (by rfl) B.range (by decide +kernel) (pa_cons pe_int (pa_cons pe_int pa_nil))) rfl) (pw_or1 (pt_cmpR op_notIn_sign (pe_ix ix_str (pv 0) pe_int (fun _ _ => rfl)) (pe_globS hL) rfl))))) (pss_one (ps_ret pe_bl)) pss_nil)
    (pss_one (ps_ret (w_all K B (pa_cons (pe_lc (own := [("sign", 1)]) rfl nd (pi_str (pv 0)) (blkOk_by (by kernel_rfl)) (fun _ _ _ _ _ => (pg_name (i := 1) nd rfl (Or.inl rfl))) (fun _ _ _ _ _ => pts_nil) (fun _ _ _ _ _ => (pe_or (pe_cmpR op_in_sign (pv 1) (pe_globS hL) rfl) (pe_one (pe_cmpR op_in_sign (pv 1) (pe_globS hF) rfl))))) pa_nil))))), ?_⟩
  rintro as d ⟨z, rfl, wz, rfl⟩
  obtain ⟨c, hc, hcl⟩ := wz.fst
  have hz : z.length ≤ 100000 := by have := wz.len; omega
  refine SvD.e ?_
  refine sv_seq (sv_if (k := false) (TvD.is (tv_or (tv_not (tv_B (ev_cb (av_cons (ev_var rfl) (av_cons ev_ty av_nil)) isi_strY))) fun _ => tv_or (tv_test (ev_op (ev_cb (av_cons (ev_var rfl) av_nil) (ra_lenS hz)) (ev_cb (av_cons ev_int (av_cons ev_int av_nil)) ra_range2) rd_ninRng)) fun _ =>
    tv_test (ev_op (ev_op (ev_var rfl) ev_int (rd_ixS (n := 0) rfl hz hc)) ev_str rd_ninSign)) ?_) (fun h => by cases h) fun _ => sv_next) ?_
  · have h1 : ((1 : Int) ≤ (z.length : Int) ∧ (z.length : Int) < 13) := by have := wz.len; omega
    rw [decide_eq_true h1, decide_eq_true hcl]; rfl
  · refine sv_ret (EvD.is (ev_cb (av_cons (ev_lcE0 (xs := z.cps.toList) (enc := fun c => .str ⟨#[c]⟩) (enc2 := .bl) (q := fun c => decide (c ∈ lettersS.cps.toList) || decide (c ∈ figuresS.cps.toList)) (wv_str (ev_var rfl)) (fun y hy =>
      ⟨_, gv_name (by decide), ev_orV (ev_op (ev_var rfl) ev_str rd_inSign) fun _ => ev_op (ev_var rfl) ev_str rd_inSign⟩) ?_) av_nil) ra_all) ?_)
    · have e1 : z.cps.toList.length = z.length := by rw [Array.length_toList]; rfl
      have e2 := wz.len
      omega
    · congr 1
      rw [List.all_map, List.all_eq_true]
      intro c hc
      show (decide (c ∈ lettersS.cps.toList) || decide (c ∈ figuresS.cps.toList)) = true
      rcases wz.all c hc with h | h
      · rw [decide_eq_true h]; rfl
      · rw [decide_eq_true h, Bool.or_true]
theorem sc_is_list : FnScope ["value"] ["value"] (defScope (topS 24)) := ⟨rfl, rfl, rfl, by decide +kernel, rfl, by decide +kernel, by decide +kernel⟩
theorem ok_is_list (T : Kx K mg C) (F : FnP K "is_list" "is_list" (topS 24) f fd) : FnOk P w K mg base CX0 1 f fd ["value"] (spF G0 rIsList) := by
  have nd := (sc_is_list).nd
  have B := T.b
  refine fn_ok F sc_is_list (fun as d ⟨z, e, _⟩ => by rw [e]; rfl) fun cdv A outer s H E hr => ?_
  refine ⟨_, (pss_one (ps_ret (w_isiT K B (pa_cons (pv 0) (pa_cons (pe_tup (pa_cons (pe_bltn (v := .ty "list") (by rfl) B.list (by decide +kernel) rfl) (pa_cons (pe_bltn (v := .ty "tuple") (by rfl) B.tuple (by decide +kernel) rfl) pa_nil))) pa_nil))))), ?_⟩
  rintro as d ⟨x, rfl, ⟨ds, rfl | rfl⟩, rfl⟩
  · exact SvD.e <| sv_ret (ev_cb (av_cons (ev_var rfl) (av_cons (ev_tup (av_cons ev_ty (av_cons ev_ty av_nil))) av_nil)) isiT_lst)
  · exact SvD.e <| sv_ret (ev_cb (av_cons (ev_var rfl) (av_cons (ev_tup (av_cons ev_ty (av_cons ev_ty av_nil))) av_nil)) isiT_tup)
theorem sc_is_row : FnScope ["value", "many"] ["value", "many"] (defScope (topS 25)) := ⟨rfl, rfl, rfl, by decide +kernel, rfl, by decide +kernel, by decide +kernel⟩
theorem ok_is_row (T : Kx K mg C) (F : FnP K "is_row" "is_row" (topS 25) f fd) : FnOk P w K mg base CX0 1 f fd ["value", "many"] (spF G0 rIsRow) := by
  have nd := (sc_is_row).nd
  have B := T.b
  refine fn_ok F sc_is_row (fun as d ⟨z, n, e, _⟩ => by rw [e]; rfl) fun cdv A outer s H E hr => ?_
  refine ⟨_, (pss_one (ps_ret (pe_and (w_isi K B (pa_cons (pv 0) (pa_cons (pe_bltn (v := .ty "tuple") (by rfl) B.tuple (by decide +kernel) rfl) pa_nil))) (pe_one (pe_cmpR op_eq (w_len K B (pa_cons (pv 0) pa_nil)) (pv 1) (nomark _)))))), ?_⟩
  rintro as d ⟨ds, n, rfl, rfl⟩
  exact SvD.e <| sv_ret (EvD.is (ev_andV (ev_cb (av_cons (ev_var rfl) (av_cons ev_ty av_nil)) isi_tupY) fun _ => ev_op (ev_cb (av_cons (ev_var rfl) av_nil) ra_lenT) (ev_var rfl) rd_eqI) rfl)
theorem sc_is_among : FnScope ["value", "words"] ["value", "words"] (defScope (topS 26)) := ⟨rfl, rfl, rfl, by decide +kernel, rfl, by decide +kernel, by decide +kernel⟩
theorem ok_is_among (T : Kx K mg C) (F : FnP K "is_among" "is_among" (topS 26) f fd) (Gis_word : Has P w K mg base "is_word" ["value"] 1 (spF G0 rIsWord)) : FnOk P w K mg base CX0 2 f fd ["value", "words"] (spF G0 rIsAmong) := by
  have nd := (sc_is_among).nd
  have B := T.b
  refine fn_ok F sc_is_among (fun as d ⟨z, n, e, _⟩ => by rcases e with e | e <;> (rw [e]; rfl)) fun cdv A outer s H E hr => ?_
  refine ⟨_, (pss_one (ps_ret (pe_and (pe_h Gis_word hr (pa_cons (pv 0) pa_nil)) (pe_one (pe_cmpR (w_in K) (pv 0) (pv 1) rfl))))), ?_⟩
  rintro as d ⟨z, xs, rfl | rfl, wz, rfl⟩
  · exact SvD.e <| sv_ret (EvD.is (ev_andV (ev_call0 (av_cons (ev_var rfl) av_nil) ⟨z, rfl, wz, rfl⟩) fun _ => ev_op (ev_var rfl) (ev_var rfl) rd_inL) rfl)
  · exact SvD.e <| sv_ret (EvD.is (ev_andV (ev_call0 (av_cons (ev_var rfl) av_nil) ⟨z, rfl, wz, rfl⟩) fun _ => ev_op (ev_var rfl) (ev_var rfl) rd_inT) rfl)
/-! ### maps -/
def rWrongPost (as : List D) (d : D) : Prop := ∃ ps : List Str, as = [.lst (ps.map .str)] ∧ ps.Nodup ∧ ps.length ≤ 100 ∧ (∀ p ∈ ps, Word p) ∧ d = .non
theorem zip_nodup {ps : List Str} (hn : ps.Nodup) {x : Str} {i : Nat} (h : (x, i) ∈ ps.zipIdx) : x ∈ ps ∧ x ∉ ps.take i ∧ ps[i]? = some x := by
  obtain ⟨h1, h2⟩ := List.mem_zipIdx' h
  have h3 : ps[i]? = some x := by rw [h2]; exact List.getElem?_eq_getElem h1
  refine ⟨List.mem_of_getElem? h3, fun z => ?_, h3⟩
  obtain ⟨j, hj, e⟩ := List.mem_take_iff_getElem.mp z
  have e1 : ps[j] = ps[i] := e.trans h2
  have hj2 : j < i ∧ j < ps.length := by omega
  have := (List.getElem_inj hn).mp e1
  omega
theorem sc_wrong_post : FnScope ["posts", "k", "post"] ["posts"] (defScope (topS 28)) := ⟨rfl, rfl, rfl, by decide +kernel, rfl, by decide +kernel, by decide +kernel⟩
theorem ok_wrong_post (T : Kx K mg C) (F : FnP K "wrong_post" "wrong_post" (topS 28) f fd) (Gis_word : Has P w K mg base "is_word" ["value"] 1 (spF G0 rIsWord)) (Gis_list : Has P w K mg base "is_list" ["value"] 1 (spF G0 rIsList)) :
    FnOk P w K mg base CX0 2 f fd ["posts"] (spF G0 rWrongPost) := by
  have nd := (sc_wrong_post).nd
  have B := T.b
  refine fn_ok F sc_wrong_post (fun as d ⟨z, e, _⟩ => by rw [e]; rfl) fun cdv A outer s H E hr => ?_
  refine ⟨_, (pss_cons (ps_if (pt_not (pt_val (pe_h Gis_list hr (pa_cons (pv 0) pa_nil)))) (pss_one (ps_ret (pe_tup (pa_cons pe_int pa_nil)))) pss_nil)
    (pss_cons (ps_for PassesOwn.never rfl (pi_enum (by rfl) B.enumerate (pa_cons (pv 0) pa_nil)) (pg_tup (by rfl) (pgs_cons (pg_name (i := 1) nd rfl (Or.inl rfl)) (pgs_cons (pg_name (i := 2) nd rfl (Or.inl rfl)) pgs_nil)))
    (pss_one (ps_if (PW.pt (pw_or (pt_not (pt_val (pe_h Gis_word hr (pa_cons (pv 2) pa_nil)))) (pw_or1 (pt_cmpR (w_in K) (pv 2) (pe_slice (w_slL K) (pv 0) po_none (po_some (pv 1))) rfl)))) (pss_one (ps_ret (pe_tup (pa_cons pe_int (pa_cons (pv 1) pa_nil))))) pss_nil)))
    (pss_one (ps_ret pe_non)))), ?_⟩
  rintro as d ⟨ps, rfl, hn, hz, hw, rfl⟩
  refine SvD.e ?_
  refine sv_seq (sv_if (k := false) (TvD.is (tv_not (tv_B (ev_call0 (av_cons (ev_var rfl) av_nil) ⟨_, rfl, ⟨_, Or.inl rfl⟩, rfl⟩))) rfl) (fun h => by cases h) fun _ => sv_next) ?_
  refine sv_seq (sv_forA (vs := [1, 2]) (wv_enumL (av_cons (ev_var rfl) av_nil)) (fun j _ => rfl) fun i x hx => ?_) (sv_ret ev_non)
  obtain ⟨p, j⟩ := x
  obtain ⟨h1, h2, h3⟩ := zip_nodup hn (List.mem_of_getElem? hx)
  refine ⟨_, _, gv_tup (gs_cons (gv_name (by decide)) (gs_cons (gv_name (by decide)) gs_nil)), .inl (sv_if (k := false) (TvD.is (tv_or (tv_not (tv_B (ev_call0 (av_cons (ev_var rfl) av_nil) ⟨p, rfl, hw p h1, rfl⟩))) fun _ =>
    tv_test (ev_op (ev_var rfl) (EvN.ev (ev_toL (ev_var rfl) (pv_some (ev_var rfl)) rfl)) (by rw [← List.map_take]; exact rd_inL))) ?_) (fun h => by cases h) fun _ => sv_next), rfl⟩
  rw [decide_eq_false h2]; rfl
/-- what a map is told by -/
structure Gr where
  ps : List Str
  n : Str → Str → Bool
structure Gr.Ok (g : Gr) : Prop where
  nd : g.ps.Nodup
  sz : g.ps.length ≤ 16
  wd : ∀ p ∈ g.ps, Word p
  rf : ∀ x, g.n x x = true
  sy : ∀ x y, g.n x y = g.n y x
def chartD (C : Addr) (g : Gr) : D := .ins C [("own_posts", .tup (g.ps.map .str)), ("own_numbers", .dic (g.ps.zipIdx.map fun p => (p.1, .int (p.2 : Nat)))), ("own_near", .dic (g.ps.map fun p => (p, .keys (g.n p))))]
theorem near_look {g : Gr} {x : Str} (h : x ∈ g.ps) : (g.ps.map fun p => (p, D.keys (g.n p))).lookup x = some (.keys (g.n x)) := by
  have key : ∀ l : List Str, x ∈ l → (l.map fun p => (p, D.keys (g.n p))).lookup x = some (.keys (g.n x)) := by
    intro l
    induction l with
    | nil => intro h; cases h
    | cons a l ih =>
      intro h
      rw [List.map_cons, List.lookup_cons]
      by_cases e : x = a
      · subst e; simp
      · have e2 : (x == a) = false := by simpa using e
        rw [e2]
        exact ih ((List.mem_cons.mp h).resolve_left e)
  exact key g.ps h
def rCheck (C : Addr) (as : List D) (d : D) : Prop := ∃ (g : Gr) (xs : List Str), g.Ok ∧ as = [chartD C g, .lst (xs.map .str)] ∧ (∀ x ∈ xs, x ∈ g.ps) ∧ d = .non
def rPosts (C : Addr) (as : List D) (d : D) : Prop := ∃ g : Gr, g.Ok ∧ as = [chartD C g] ∧ d = .lst (g.ps.map .str)
def rIsNear (C : Addr) (as : List D) (d : D) : Prop := ∃ (g : Gr) (x y : Str), g.Ok ∧ as = [chartD C g, .str x, .str y] ∧ x ∈ g.ps ∧ y ∈ g.ps ∧ d = .bl (g.n x y)
def rNear (C : Addr) (as : List D) (d : D) : Prop := ∃ (g : Gr) (x : Str), g.Ok ∧ as = [chartD C g, .str x] ∧ x ∈ g.ps ∧ d = .lst ((g.ps.filter fun y => g.n x y).map .str)
def Gr.tied (g : Gr) (x : Str) : List Str := (g.ps.filter fun y => g.n x y).filter fun y => !decide (y = x)
def rTied (C : Addr) (as : List D) (d : D) : Prop := ∃ (g : Gr) (x : Str), g.Ok ∧ as = [chartD C g, .str x] ∧ x ∈ g.ps ∧ d = .lst ((g.tied x).map .str)
theorem sc_m_check : FnScope ["self", "values", "value"] ["self", "values"] (defScope (mapS 2)) := ⟨rfl, rfl, rfl, by decide +kernel, rfl, by decide +kernel, by decide +kernel⟩
theorem ok_m_check (T : Kx K mg C) (F : FnP K "check" "Map.check" (mapS 2) f fd) (Gis_among : Has P w K mg base "is_among" ["value", "words"] 2 (spF G0 rIsAmong)) : FnOk P w K mg base CX0 3 f fd ["self", "values"] (spF G0 (rCheck C)) := by
  have nd := (sc_m_check).nd
  have B := T.b
  refine fn_ok F sc_m_check (fun as d ⟨g, xs, _, e, _⟩ => by rw [e]; rfl) fun cdv A outer s H E hr => ?_
  refine ⟨_, (pss_one (ps_for PassesOwn.never rfl (w_piL K (pv 1)) (pg_name (i := 2) nd rfl (Or.inl rfl))
    (pss_one (ps_if (pt_not (pt_val (pe_h Gis_among hr (pa_cons (pv 2) (pa_cons (w_fld K (pv 0)) pa_nil))))) (pss_one ps_never) pss_nil)))), ?_⟩
  rintro as d ⟨g, xs, hg, rfl, hx, rfl⟩
  refine sv_end (sv_forA (vs := [2]) (xs := xs) (enc := .str) (wv_list (ev_var rfl)) (fun j _ => rfl) fun i x hi => ?_)
  have hxg := hx x (List.mem_of_getElem? hi)
  refine ⟨_, _, gv_name (by decide), .inl (sv_if (k := false) (TvD.is (tv_not (tv_B (ev_call0 (av_cons (ev_var rfl) (av_cons (ev_fld (ev_var rfl) T.cl T.naP rfl) av_nil)) ⟨x, g.ps, Or.inr rfl, hg.wd x hxg, rfl⟩))) ?_) (fun h => by cases h) fun _ => sv_next), rfl⟩
  rw [decide_eq_true hxg]; rfl
theorem sc_m_posts : FnScope ["self"] ["self"] (defScope (mapS 3)) := ⟨rfl, rfl, rfl, by decide +kernel, rfl, by decide +kernel, by decide +kernel⟩
theorem ok_m_posts (T : Kx K mg C) (F : FnP K "posts" "Map.posts" (mapS 3) f fd) : FnOk P w K mg base CX0 1 f fd ["self"] (spN G0 (rPosts C)) := by
  have nd := (sc_m_posts).nd
  have B := T.b
  refine fn_okN F sc_m_posts (fun as d ⟨g, _, e, _⟩ => by rw [e]; rfl) fun cdv A outer s H E hr => ?_
  refine ⟨_, (pss_one (ps_ret (w_list K B (pa_cons (w_fld K (pv 0)) pa_nil)))), ?_⟩
  rintro as d ⟨g, hg, rfl, rfl⟩
  exact sv_retE (en_listT (av_cons (ev_fld (ev_var rfl) T.cl T.naP rfl) av_nil))
theorem sc_m_is_near : FnScope ["self", "x", "y"] ["self", "x", "y"] (defScope (mapS 6)) := ⟨rfl, rfl, rfl, by decide +kernel, rfl, by decide +kernel, by decide +kernel⟩
theorem ok_m_is_near (T : Kx K mg C) (F : FnP K "is_near" "Map.is_near" (mapS 6) f fd) (Mcheck : HasM P w K mg base C "check" ["self", "values"] 3 (spF G0 (rCheck C))) : FnOk P w K mg base CX0 4 f fd ["self", "x", "y"] (spF G0 (rIsNear C)) := by
  have nd := (sc_m_is_near).nd
  have B := T.b
  have cl := T.cl
  refine fn_ok F sc_m_is_near (fun as d ⟨g, x, y, _, e, _⟩ => by rw [e]; rfl) fun cdv A outer s H E hr => ?_
  have hu := hu_of hr
  refine ⟨_, (pss_cons (ps_expr (pe_hm Mcheck cl hr (pv 0) (pa_cons (pe_lst (pa_cons (pv 1) (pa_cons (pv 2) pa_nil))) pa_nil)))
    (pss_one (ps_ret (pe_cmp (pc_din hu (pv 2) (pe_dget hu (w_fld K (pv 0)) (pv 1) (fun _ _ => rfl))) rfl)))), ?_⟩
  rintro as d ⟨g, x, y, hg, rfl, hx, hy, rfl⟩
  refine SvD.e ?_
  refine sv_seq (sv_drop (ev_meth0 (ev_var rfl) rfl (av_cons (ev_lst (av_cons (ev_var rfl) (av_cons (ev_var rfl) av_nil))) av_nil) ⟨g, [x, y], hg, rfl, ?_, rfl⟩)) (sv_ret (ev_dinK (ev_var rfl) (ev_dget (ev_fld (ev_var rfl) T.cl T.naN rfl) (ev_var rfl) (near_look hx))))
  intro z hz
  rcases List.mem_cons.mp hz with rfl | hz
  · exact hx
  · rw [List.mem_singleton.mp hz]; exact hy
theorem sc_m_near : FnScope ["self", "x", "post"] ["self", "x"] (defScope (mapS 7)) := ⟨rfl, rfl, rfl, by decide +kernel, rfl, by decide +kernel, by decide +kernel⟩
theorem ok_m_near (T : Kx K mg C) (F : FnP K "near" "Map.near" (mapS 7) f fd) (Mcheck : HasM P w K mg base C "check" ["self", "values"] 3 (spF G0 (rCheck C))) : FnOk P w K mg base CX0 4 f fd ["self", "x"] (spN G0 (rNear C)) := by
  have nd := (sc_m_near).nd
  have B := T.b
  have cl := T.cl
  refine fn_okN F sc_m_near (fun as d ⟨g, x, _, e, _⟩ => by rw [e]; rfl) fun cdv A outer s H E hr => ?_
  have hu := hu_of hr
  refine ⟨_, (pss_cons (ps_expr (pe_hm Mcheck cl hr (pv 0) (pa_cons (pe_lst (pa_cons (pv 1) pa_nil)) pa_nil)))
    (pss_one (ps_ret (pe_lc (own := [("post", 2)]) rfl nd (w_piT K (w_fld K (pv 0))) (blkOk_by (by kernel_rfl)) (fun _ _ _ _ _ => (pg_name (i := 2) nd rfl (Or.inl rfl))) (fun _ _ _ _ _ => pts_one (pt_cmp (pc_din hu (pv 2) (pe_dget hu (w_fld K (pv 0)) (pv 1) (fun _ _ => rfl))) rfl)) (fun _ _ _ _ _ => (pv 2)))))), ?_⟩
  rintro as d ⟨g, x, hg, rfl, hx, rfl⟩
  refine sv_seq (sv_drop (ev_meth0 (ev_var rfl) rfl (av_cons (ev_lst (av_cons (ev_var rfl) av_nil)) av_nil) ⟨g, [x], hg, rfl, fun z hz => by rw [List.mem_singleton.mp hz]; exact hx, rfl⟩))
    (sv_retE (ev_lcF (wv_tup (ev_fld (ev_var rfl) T.cl T.naP rfl)) (fun y hy => ⟨_, gv_name (by decide), tv_B (ev_dinK (ev_var rfl) (ev_dget (ev_fld (ev_var rfl) T.cl T.naN rfl) (ev_var rfl) (near_look hx))), fun _ => ev_var rfl⟩) ?_))
  have := hg.sz
  omega
theorem sc_m_tied : FnScope ["self", "x", "post"] ["self", "x"] (defScope (mapS 8)) := ⟨rfl, rfl, rfl, by decide +kernel, rfl, by decide +kernel, by decide +kernel⟩
theorem ok_m_tied (T : Kx K mg C) (F : FnP K "tied" "Map.tied" (mapS 8) f fd) (Mnear : HasM P w K mg base C "near" ["self", "x"] 4 (spN G0 (rNear C))) : FnOk P w K mg base CX0 5 f fd ["self", "x"] (spN G0 (rTied C)) := by
  have nd := (sc_m_tied).nd
  have B := T.b
  have cl := T.cl
  refine fn_okN F sc_m_tied (fun as d ⟨g, x, _, e, _⟩ => by rw [e]; rfl) fun cdv A outer s H E hr => ?_
  refine ⟨_, (pss_one (ps_ret (pe_lc (own := [("post", 2)]) rfl nd (w_piL K (pe_hm Mnear cl hr (pv 0) (pa_cons (pv 1) pa_nil))) (blkOk_by (by kernel_rfl)) (fun _ _ _ _ _ => (pg_name (i := 2) nd rfl (Or.inl rfl))) (fun _ _ _ _ _ => pts_one (pt_cmpR op_ne (pv 2) (pv 1) (nomark _))) (fun _ _ _ _ _ => (pv 2))))), ?_⟩
  rintro as d ⟨g, x, hg, rfl, hx, rfl⟩
  refine sv_retE (ev_lcF (wv_list (EvN.ev (en_meth0 (ev_var rfl) rfl (av_cons (ev_var rfl) av_nil) ⟨g, x, hg, rfl, hx, rfl⟩))) (fun y hy => ⟨_, gv_name (by decide), tv_test (ev_op (ev_var rfl) (ev_var rfl) rd_neS), fun _ => ev_var rfl⟩) ?_)
  have h1 := hg.sz
  have h2 : (g.ps.filter fun y => g.n x y).length ≤ g.ps.length := List.length_filter_le _ _
  omega
end
end CW
/-! P2 -/
/-! P2: peelings. -/
namespace CW
open PySem PySem.Spec PyProof.Rows L2
abbrev sS (xs : List Str) : List D := xs.map .str
def rAreNear (C : Addr) (as : List D) (d : D) : Prop := ∃ (g : Gr) (xs : List Str), g.Ok ∧ (as = [chartD C g, .lst (sS xs)] ∨ as = [chartD C g, .tup (sS xs)]) ∧ (∀ x ∈ xs, x ∈ g.ps) ∧ xs.length ≤ 100 ∧ d = .bl (CT.areNear g.n xs)
def rLeftNear (C : Addr) (as : List D) (d : D) : Prop := ∃ (g : Gr) (x : Str) (left : List Str), g.Ok ∧ (as = [chartD C g, .str x, .lst (sS left)] ∨ as = [chartD C g, .str x, .tup (sS left)]) ∧ x ∈ g.ps ∧ d = .lst (sS (CT.leftNear g.ps g.n x left))
def rFree (C : Addr) (as : List D) (d : D) : Prop := ∃ (g : Gr) (left : List Str), g.Ok ∧ as = [chartD C g, .lst (sS left)] ∧ (∀ x ∈ left, x ∈ g.ps) ∧ left.length ≤ 100 ∧ d = .lst (sS (CT.free g.ps g.n left))
def rPeeled (C : Addr) (as : List D) (d : D) : Prop := ∃ g : Gr, g.Ok ∧ as = [chartD C g] ∧ d = .tup [.lst (sS (CT.peeled g.ps g.n).1), .lst (sS (CT.peeled g.ps g.n).2)]
def optT : Option (List Str) → D
  | none => .non
  | some xs => .tup (sS xs)
def rPeelingOf (C : Addr) (as : List D) (d : D) : Prop := ∃ g : Gr, g.Ok ∧ as = [chartD C g] ∧ d = optT (CT.peelingOf g.ps g.n)
def rGood (C : Addr) (as : List D) (d : D) : Prop := ∃ g : Gr, g.Ok ∧ as = [chartD C g] ∧ d = .bl (CT.peelingOf g.ps g.n).isSome
def rLater (C : Addr) (as : List D) (d : D) : Prop := ∃ (g : Gr) (p : List Str), g.Ok ∧ as = [chartD C g, .tup (sS p)] ∧ (∀ x ∈ p, x ∈ g.ps) ∧ p.length ≤ 100 ∧ d = .lst ((CT.laterNear g.ps g.n p).map fun q => .tup [.str q.1, .tup (sS q.2)])
theorem left_sub {g : Gr} {x : Str} {left : List Str} : ∀ y ∈ CT.leftNear g.ps g.n x left, y ∈ g.ps := fun y hy => (List.mem_filter.mp (List.mem_filter.mp (List.mem_filter.mp hy).1).1).1
theorem left_len {g : Gr} (hg : g.Ok) {x : Str} {left : List Str} : (CT.leftNear g.ps g.n x left).length ≤ 16 :=
  Nat.le_trans (List.length_filter_le _ _) (Nat.le_trans (List.length_filter_le _ _) (Nat.le_trans (List.length_filter_le _ _) hg.sz))
theorem w_gtup {X : Cx} {es : List Expr} {t : TGs} {pos : Pos} {k : Nat} (K : PySem.W.Frag) (n : Nat) (h : PGs X es t) (hc : X.calm = true := by rfl) (hK : X.K = K := by rfl)
    (hn : (assignEach es X.env).length = n := by rfl) (hst : (assignEach es X.env).findIdx? (·.1) = none := by rfl) : PG X (.Tuple es k pos) (gTup K n t) := hK ▸ pg_tup hc h hn hst
section
variable {P : Program} {w : World} {K : PySem.W.Frag} {mg : Str → Option Value} {base : Heap} {C : Addr} {f : Addr} {fd : FuncData}
theorem sc_are_near : FnScope ["chart", "posts", "one", "other"] ["chart", "posts"] (defScope (topS 7)) := ⟨rfl, rfl, rfl, by decide +kernel, rfl, by decide +kernel, by decide +kernel⟩
theorem ok_are_near (T : Kx K mg C) (F : FnP K "are_near" "are_near" (topS 7) f fd) (Mis_near : HasM P w K mg base C "is_near" ["self", "x", "y"] 4 (spF G0 (rIsNear C))) : FnOk P w K mg base CX0 5 f fd ["chart", "posts"] (spF G0 (rAreNear C)) := by
  have nd := (sc_are_near).nd
  have B := T.b
  have cl := T.cl
  refine fn_ok F sc_are_near (fun as d ⟨g, xs, _, e, _⟩ => by rcases e with e | e <;> (rw [e]; rfl)) fun cdv A outer s H E hr => ?_
  refine ⟨_, (pss_one (ps_ret (w_all K B (pa_cons (pe_lc2 (own := [("one", 2), ("other", 3)]) rfl nd (w_piS K (pv 1)) (blkOk_by (by kernel_rfl)) (vs1 := [3]) (by decide) (fun _ _ _ _ _ => (pg_name (i := 2) nd rfl (Or.inl rfl))) (fun _ _ _ _ _ => pts_nil) (fun _ _ _ _ _ => (w_piS K (pv 1))) (fun _ _ _ _ _ => (pg_name (i := 3) nd rfl (Or.inl rfl))) (fun _ _ _ _ _ => pts_nil) (fun _ _ _ _ _ => (pe_hm Mis_near cl hr (pv 0) (pa_cons (pv 2) (pa_cons (pv 3) pa_nil))))) pa_nil)))), ?_⟩
  rintro as d ⟨g, xs, hg, he, hx, hz, rfl⟩
  have hlen : (xs.flatMap fun _ => xs).length ≤ 90000 := by
    have : (xs.flatMap fun _ => xs).length = xs.length * xs.length := by simp [List.length_flatMap, List.map_const']
    rw [this]
    have := Nat.mul_le_mul hz hz
    omega
  have e : ∀ K : PySem.W.Frag, RDA G0 (rAll K) [.lst (xs.flatMap fun a => xs.map fun b => D.bl (g.n a b))] (.bl (CT.areNear g.n xs)) := fun K => by
    have e1 : (xs.flatMap fun a => xs.map fun b => D.bl (g.n a b)) = (xs.flatMap fun a => xs.map fun b => g.n a b).map D.bl := by
      rw [List.map_flatMap]
      simp [List.map_map, Function.comp_def]
    rw [e1]
    exact ra_all
  rcases he with rfl | rfl
  · exact SvD.e <| sv_ret (ev_cb (av_cons (EvN.ev (ev_lc2 (xs := xs) (enc := .str) (ys := fun _ => xs) (enc1 := .str) (h := fun a b => .bl (g.n a b)) (M := 0) (wv_seqL (ev_var rfl)) (fun x hx' => ⟨_, gv_name (by decide), wv_seqL (ev_var rfl), fun y hy =>
      ⟨_, gv_name (by decide), ev_meth0 (ev_var rfl) rfl (av_cons (ev_var rfl) (av_cons (ev_var rfl) av_nil)) ⟨g, x, y, hg, rfl, hx x hx', hx y hy, rfl⟩⟩⟩) (by decide) hlen)) av_nil) (e K))
  · exact SvD.e <| sv_ret (ev_cb (av_cons (EvN.ev (ev_lc2 (xs := xs) (enc := .str) (ys := fun _ => xs) (enc1 := .str) (h := fun a b => .bl (g.n a b)) (M := 0) (wv_seqT (ev_var rfl)) (fun x hx' => ⟨_, gv_name (by decide), wv_seqT (ev_var rfl), fun y hy =>
      ⟨_, gv_name (by decide), ev_meth0 (ev_var rfl) rfl (av_cons (ev_var rfl) (av_cons (ev_var rfl) av_nil)) ⟨g, x, y, hg, rfl, hx x hx', hx y hy, rfl⟩⟩⟩) (by decide) hlen)) av_nil) (e K))
theorem sc_left_near : FnScope ["chart", "post", "left", "other"] ["chart", "post", "left"] (defScope (topS 8)) := ⟨rfl, rfl, rfl, by decide +kernel, rfl, by decide +kernel, by decide +kernel⟩
theorem ok_left_near (T : Kx K mg C) (F : FnP K "left_near" "left_near" (topS 8) f fd) (Mtied : HasM P w K mg base C "tied" ["self", "x"] 5 (spN G0 (rTied C))) : FnOk P w K mg base CX0 6 f fd ["chart", "post", "left"] (spN G0 (rLeftNear C)) := by
  have nd := (sc_left_near).nd
  have B := T.b
  have cl := T.cl
  refine fn_okN F sc_left_near (fun as d ⟨g, x, l, _, e, _⟩ => by rcases e with e | e <;> (rw [e]; rfl)) fun cdv A outer s H E hr => ?_
  refine ⟨_, (pss_one (ps_ret (pe_lc (own := [("other", 3)]) rfl nd (w_piL K (pe_hm Mtied cl hr (pv 0) (pa_cons (pv 1) pa_nil))) (blkOk_by (by kernel_rfl)) (fun _ _ _ _ _ => (pg_name (i := 3) nd rfl (Or.inl rfl))) (fun _ _ _ _ _ => pts_one (pt_cmpR (w_in K) (pv 3) (pv 2) rfl)) (fun _ _ _ _ _ => (pv 3))))), ?_⟩
  rintro as d ⟨g, x, left, hg, he, hx, rfl⟩
  have hz : (g.tied x).length ≤ 90000 := by
    have h1 := hg.sz
    have h2 : (g.tied x).length ≤ (g.ps.filter fun y => g.n x y).length := List.length_filter_le _ _
    have h3 : (g.ps.filter fun y => g.n x y).length ≤ g.ps.length := List.length_filter_le _ _
    omega
  rcases he with rfl | rfl
  · exact sv_retE (ev_lcF (xs := g.tied x) (wv_list (EvN.ev (en_meth0 (ev_var rfl) rfl (av_cons (ev_var rfl) av_nil) ⟨g, x, hg, rfl, hx, rfl⟩))) (fun y hy => ⟨_, gv_name (by decide), tv_test (ev_op (ev_var rfl) (ev_var rfl) rd_inL), fun _ => ev_var rfl⟩) hz)
  · exact sv_retE (ev_lcF (xs := g.tied x) (wv_list (EvN.ev (en_meth0 (ev_var rfl) rfl (av_cons (ev_var rfl) av_nil) ⟨g, x, hg, rfl, hx, rfl⟩))) (fun y hy => ⟨_, gv_name (by decide), tv_test (ev_op (ev_var rfl) (ev_var rfl) rd_inT), fun _ => ev_var rfl⟩) hz)
theorem sc_free_posts : FnScope ["chart", "left", "post"] ["chart", "left"] (defScope (topS 9)) := ⟨rfl, rfl, rfl, by decide +kernel, rfl, by decide +kernel, by decide +kernel⟩
theorem ok_free_posts (T : Kx K mg C) (F : FnP K "free_posts" "free_posts" (topS 9) f fd) (Gare_near : Has P w K mg base "are_near" ["chart", "posts"] 5 (spF G0 (rAreNear C))) (Gleft_near : Has P w K mg base "left_near" ["chart", "post", "left"] 6 (spN G0 (rLeftNear C))) :
    FnOk P w K mg base CX0 7 f fd ["chart", "left"] (spN G0 (rFree C)) := by
  have nd := (sc_free_posts).nd
  have B := T.b
  have cl := T.cl
  refine fn_okN F sc_free_posts (fun as d ⟨g, l, _, e, _⟩ => by rw [e]; rfl) fun cdv A outer s H E hr => ?_
  refine ⟨_, (pss_one (ps_ret (pe_lc (own := [("post", 2)]) rfl nd (w_piL K (pv 1)) (blkOk_by (by kernel_rfl)) (fun _ _ _ _ _ => (pg_name (i := 2) nd rfl (Or.inl rfl))) (fun _ _ _ _ _ => pts_one (pt_val (pe_h Gare_near hr (pa_cons (pv 0) (pa_cons (pe_h Gleft_near hr (pa_cons (pv 0) (pa_cons (pv 2) (pa_cons (pv 1) pa_nil)))) pa_nil))))) (fun _ _ _ _ _ => (pv 2))))), ?_⟩
  rintro as d ⟨g, left, hg, rfl, hx, hz, rfl⟩
  refine sv_retE (ev_lcF (wv_list (ev_var rfl)) (fun y hy => ⟨_, gv_name (by decide), tv_B (ev_call0 (av_cons (ev_var rfl) (av_cons (EvN.ev (en_call0 (av_cons (ev_var rfl) (av_cons (ev_var rfl) (av_cons (ev_var rfl) av_nil))) ⟨g, y, left, hg, Or.inl rfl, hx y hy, rfl⟩)) av_nil))
    ⟨g, _, hg, Or.inl rfl, left_sub, Nat.le_trans (left_len hg) (by decide), rfl⟩), fun _ => ev_var rfl⟩) (by omega))
theorem small_let : ∀ c ∈ lettersS.cps.toList, c < 0x110000 := by decide +kernel
theorem small_fig : ∀ c ∈ figuresS.cps.toList, c < 0x110000 := by decide +kernel
theorem Word.ok {z : Str} (h : Word z) : PyData.strOk z = true := by
  unfold PyData.strOk
  rw [Array.all_eq_true']
  intro c hc
  have hc' : c ∈ z.cps.toList := Array.mem_toList_iff.mpr hc
  exact decide_eq_true ((h.all c hc').elim (small_let c) (small_fig c))
theorem eqk_posts {g : Gr} (hg : g.Ok) {xs : List Str} (hx : ∀ x ∈ xs, x ∈ g.ps) : Eqk 1 (.lst (sS xs)) := eqk_lst fun x h => eqk_str (hg.wd x (hx x h)).ok
theorem eqk_postsT {g : Gr} (hg : g.Ok) {xs : List Str} (hx : ∀ x ∈ xs, x ∈ g.ps) : Eqk 1 (.tup (sS xs)) := eqk_tup fun x h => eqk_str (hg.wd x (hx x h)).ok
theorem free_sub {g : Gr} {left : List Str} (h : ∀ x ∈ left, x ∈ g.ps) : ∀ y ∈ CT.free g.ps g.n left, y ∈ g.ps := fun y hy => h y (List.mem_filter.mp hy).1
theorem sv_toN {Γ : Gam} {t : TS} {ρ ρ1 ρ2 : Rho} {μ μ1 μ2 : Mus} (vs : List Nat) (h : SvD Γ t ρ μ (.nx ρ1 μ1)) (hr : wipeD ρ1 vs = ρ2) (hm : μ1 = μ2) : SvD Γ t ρ μ (.nx ρ2 μ2) := by
  subst hr; subst hm; exact sv_fgt vs h
theorem sc_peeled : FnScope ["chart", "found", "left", "some"] ["chart"] (defScope (topS 10)) := ⟨rfl, rfl, rfl, by decide +kernel, rfl, by decide +kernel, by decide +kernel⟩
theorem ok_peeled (T : Kx K mg C) (F : FnP K "peeled" "peeled" (topS 10) f fd) (Mposts : HasM P w K mg base C "posts" ["self"] 1 (spN G0 (rPosts C))) (Gfree_posts : Has P w K mg base "free_posts" ["chart", "left"] 7 (spN G0 (rFree C))) :
    FnOk P w K mg base CX0 8 f fd ["chart"] (spF G0 (rPeeled C)) := by
  have nd := (sc_peeled).nd
  have B := T.b
  have cl := T.cl
  refine fn_ok F sc_peeled (fun as d ⟨g, _, e, _⟩ => by rw [e]; rfl) fun cdv A outer s H E hr => ?_
  refine ⟨_, (pss_cons (ps_par (i := 1) (j := 2) rfl nd rfl rfl (by decide) rfl rfl (pa_cons (pe_lst pa_nil) (pa_cons (pe_hm0 Mposts cl hr (pv 0)) pa_nil)) rfl)
    (pss_one (ps_while PassesOwn.never (pt_val pe_bl) (pss_cons (ps_set (i := 3) nd rfl (Or.inl rfl) (pe_h Gfree_posts hr (pa_cons (pv 0) (pa_cons (pv 2) pa_nil))))
    (pss_cons (ps_if (pt_cmpR (w_eqD K hr) (pv 3) (pe_lst pa_nil) (nomark _)) (pss_one (ps_ret (pe_tup (pa_cons (pv 1) (pa_cons (pv 2) pa_nil))))) pss_nil)
    (pss_cons (ps_expr (pe_bm PySem.F.plainAttrs_list PySem.F.slot_list_append PySem.F.type_list_append mt_append (pv 1) (pa_cons (pe_ix (w_ixL K) (pv 3) pe_int (fun _ _ => rfl)) pa_nil)))
    (pss_one (ps_expr (pe_bm PySem.F.plainAttrs_list PySem.F.slot_list_remove PySem.F.type_list_remove mt_removeS (pv 2) (pa_cons (pe_ix (w_ixL K) (pv 3) pe_int (fun _ _ => rfl)) pa_nil)))))))))), ?_⟩
  rintro as d ⟨g, hg, rfl, rfl⟩
  obtain ⟨kk, hkk, hne, hend, hpe⟩ := CT.peel_kk (ps := g.ps) (n := g.n)
  have inv := fun i => CT.peelIt_inv (n := g.n) hg.nd i
  have lsub : ∀ i, ∀ x ∈ (CT.peelIt g.ps g.n i).2, x ∈ g.ps := fun i x hx => (inv i).2.subset hx
  have llen : ∀ i, (CT.peelIt g.ps g.n i).2.length ≤ 100 := fun i => by have := (inv i).2.length_le; have := hg.sz; omega
  rw [hpe]
  refine SvD.e <| sv_seq (sv_par_nn (en_lst av_nil) (en_meth0 (ev_var rfl) rfl av_nil ⟨g, hg, rfl, rfl⟩)) (sv_while (fun i => ([some (chartD C g), none, none, none], [(2, .lst (sS (CT.peelIt g.ps g.n i).2)), (1, .lst (sS (CT.peelIt g.ps g.n i).1))])) kk rfl (fun i hi => ⟨tv_B ev_bl, ?_⟩) (.inr ⟨_, tv_B ev_bl, ?_, rfl⟩))
  · cases hf : CT.free g.ps g.n (CT.peelIt g.ps g.n i).2 with
    | nil => exact absurd hf (hne i hi)
    | cons x r =>
      have e1 : CT.peelIt g.ps g.n (i + 1) = ((CT.peelIt g.ps g.n i).1 ++ [x], (CT.peelIt g.ps g.n i).2.erase x) := CT.peelStep_some hf
      have hx : x ∈ (CT.peelIt g.ps g.n i).2 := (CT.free_mem (by rw [hf]; exact List.mem_cons_self)).1
      have hfl := (CT.peelIt_len fun j hj => hne j (Nat.lt_trans hj hi)).2
      have hg0 : sS (CT.free g.ps g.n (CT.peelIt g.ps g.n i).2) = .str x :: sS r := by rw [hf]; rfl
      refine sv_toN [3] (sv_seq (sv_asgF (en_call0 (av_cons (ev_var rfl) (av_cons (ev_var rfl) av_nil)) ⟨g, _, hg, rfl, lsub i, llen i, rfl⟩) (flat_strs _))
        (sv_seq (sv_if (k := false) (tv_test (EvD.is (ev_op (ev_var rfl) (ev_lst av_nil) (rd_isNil (eqk_posts hg (free_sub (lsub i))))) (by rw [hf]; rfl))) (fun h => by cases h) fun _ => sv_next)
        (sv_seq (sv_app (i := 1) rfl (ev_op (ev_var rfl) ev_int (rd_ixL (n := 0) (d := .str x) rfl (by rw [hg0]; rfl))) (by rw [List.length_map, hfl]; have := hg.sz; omega))
          (sv_rem (i := 2) (ns := (CT.peelIt g.ps g.n i).2) rfl (ev_op (ev_var rfl) ev_int (rd_ixL (n := 0) (d := .str x) rfl (by rw [hg0]; rfl))) hx)))) rfl ?_
      rw [e1]
      show [(2, _), (1, _)] = [(2, _), (1, _)]
      rw [show sS ((CT.peelIt g.ps g.n i).1 ++ [x]) = sS (CT.peelIt g.ps g.n i).1 ++ [.str x] from List.map_append ..]
  · refine sv_seq (sv_asgF (en_call0 (av_cons (ev_var rfl) (av_cons (ev_var rfl) av_nil)) ⟨g, _, hg, rfl, lsub kk, llen kk, rfl⟩) (flat_strs _))
      (sv_seq_rt (sv_if (k := true) (tv_test (EvD.is (ev_op (ev_var rfl) (ev_lst av_nil) (rd_isNil (eqk_posts hg (free_sub (lsub kk))))) (by rw [hend]; rfl))) (fun _ => sv_ret (ev_tup (av_cons (ev_var rfl) (av_cons (ev_var rfl) av_nil)))) fun h => by cases h))
theorem sc_peeling_of : FnScope ["chart", "found", "left"] ["chart"] (defScope (topS 11)) := ⟨rfl, rfl, rfl, by decide +kernel, rfl, by decide +kernel, by decide +kernel⟩
theorem ok_peeling_of (T : Kx K mg C) (F : FnP K "peeling_of" "peeling_of" (topS 11) f fd) (Gpeeled : Has P w K mg base "peeled" ["chart"] 8 (spF G0 (rPeeled C))) : FnOk P w K mg base CX0 9 f fd ["chart"] (spF G0 (rPeelingOf C)) := by
  have nd := (sc_peeling_of).nd
  have B := T.b
  refine fn_ok F sc_peeling_of (fun as d ⟨g, _, e, _⟩ => by rw [e]; rfl) fun cdv A outer s H E hr => ?_
  refine ⟨_, (pss_cons (ps_asg (pe_h Gpeeled hr (pa_cons (pv 0) pa_nil)) (pg_tup (by rfl) (pgs_cons (pg_name (i := 1) nd rfl (Or.inl rfl)) (pgs_cons (pg_name (i := 2) nd rfl (Or.inl rfl)) pgs_nil))))
    (pss_one (ps_ret (pe_ifExp (pt_cmpR (w_eqD K hr) (pv 2) (pe_lst pa_nil) (nomark _)) (w_tuple K B (pa_cons (pv 1) pa_nil)) pe_non)))), ?_⟩
  rintro as d ⟨g, hg, rfl, rfl⟩
  have lsub : ∀ x ∈ (CT.peeled g.ps g.n).2, x ∈ g.ps := fun x hx => (CT.peelIt_inv hg.nd _).2.subset hx
  refine SvD.e <| sv_seq (sv_asgG (vs := [1, 2]) (ev_call0 (av_cons (ev_var rfl) av_nil) ⟨g, hg, rfl, rfl⟩) (gv_tup (gs_cons (gv_name (by decide)) (gs_cons (gv_name (by decide)) gs_nil))) (fun j _ => rfl)) (sv_ret (ev_if (tv_test (ev_op (ev_var rfl) (ev_lst av_nil) (rd_isNil (eqk_posts hg lsub)))) (fun h => ?_) fun h => ?_))
  · have e : CT.peelingOf g.ps g.n = some (CT.peeled g.ps g.n).1 := if_pos (List.isEmpty_iff.mp h)
    rw [e]
    exact ev_cb (av_cons (ev_var rfl) av_nil) ra_tuple
  · have e : CT.peelingOf g.ps g.n = none := if_neg fun z => by rw [z] at h; cases h
    rw [e]
    exact ev_non
theorem sc_good : FnScope ["chart"] ["chart"] (defScope (topS 12)) := ⟨rfl, rfl, rfl, by decide +kernel, rfl, by decide +kernel, by decide +kernel⟩
theorem ok_good (T : Kx K mg C) (F : FnP K "good" "good" (topS 12) f fd) (Gpeeling_of : Has P w K mg base "peeling_of" ["chart"] 9 (spF G0 (rPeelingOf C))) : FnOk P w K mg base CX0 10 f fd ["chart"] (spF G0 (rGood C)) := by
  have nd := (sc_good).nd
  refine fn_ok F sc_good (fun as d ⟨g, _, e, _⟩ => by rw [e]; rfl) fun cdv A outer s H E hr => ?_
  refine ⟨_, (pss_one (ps_ret (pe_cmpR op_notN (pe_h Gpeeling_of hr (pa_cons (pv 0) pa_nil)) pe_non (nomark _)))), ?_⟩
  rintro as d ⟨g, hg, rfl, rfl⟩
  refine SvD.e <| sv_ret (EvD.is (ev_op (ev_call0 (av_cons (ev_var rfl) av_nil) ⟨g, hg, rfl, rfl⟩) ev_non rd_notN) ?_)
  cases CT.peelingOf g.ps g.n <;> rfl
theorem sc_later_near : FnScope ["chart", "peeling", "place", "post"] ["chart", "peeling"] (defScope (topS 13)) := ⟨rfl, rfl, rfl, by decide +kernel, rfl, by decide +kernel, by decide +kernel⟩
theorem ok_later_near (T : Kx K mg C) (F : FnP K "later_near" "later_near" (topS 13) f fd) (Gleft_near : Has P w K mg base "left_near" ["chart", "post", "left"] 6 (spN G0 (rLeftNear C))) : FnOk P w K mg base CX0 7 f fd ["chart", "peeling"] (spF G0 (rLater C)) := by
  have nd := (sc_later_near).nd
  have B := T.b
  refine fn_ok F sc_later_near (fun as d ⟨g, p, _, e, _⟩ => by rw [e]; rfl) fun cdv A outer s H E hr => ?_
  refine ⟨_, (pss_one (ps_ret (pe_lc (own := [("place", 2), ("post", 3)]) rfl nd (pi_enumT rfl B.enumerate (pa_cons (pv 1) pa_nil)) (blkOk_by (by kernel_rfl)) (fun _ _ _ _ _ => (w_gtup K 2 (pgs_cons (pg_name (i := 2) nd rfl (Or.inl rfl)) (pgs_cons (pg_name (i := 3) nd rfl (Or.inl rfl)) pgs_nil)))) (fun _ _ _ _ _ => pts_nil) (fun _ _ _ _ _ => (pe_tup (pa_cons (pv 3) (pa_cons (w_tuple K B (pa_cons (pe_h Gleft_near hr (pa_cons (pv 0) (pa_cons (pv 3) (pa_cons (pe_slice (w_slT K) (pv 1) (po_some (pe_op op_add (pv 2) pe_int)) po_none) pa_nil)))) pa_nil)) pa_nil))))))), ?_⟩
  rintro as d ⟨g, p, hg, rfl, hp, hz, rfl⟩
  refine SvD.e <| sv_ret (EvD.is (ev_lc0 (vs := [2, 3]) (xs := p.zipIdx) (h := fun q => D.tup [.str q.1, .tup (sS (CT.leftNear g.ps g.n q.1 (p.drop (q.2 + 1))))]) (wv_enumT (av_cons (ev_var rfl) av_nil)) (fun q hq => ⟨_, gv_tup (gs_cons (gv_name (by decide)) (gs_cons (gv_name (by decide)) gs_nil)),
    ev_tup (av_cons (ev_var rfl) (av_cons (ev_cb (av_cons (EvN.ev (en_call0 (av_cons (ev_var rfl) (av_cons (ev_var rfl) (av_cons (ev_fromT (n := q.2 + 1) (ev_var rfl) (pv_some (ev_op (ev_var rfl) ev_int rd_add)) (by simp)) av_nil))) ⟨g, q.1, p.drop (q.2 + 1), hg, Or.inr (by rw [← List.map_drop]), hp q.1 (by have h := List.mem_zipIdx' hq; rw [h.2]; exact List.getElem_mem h.1), rfl⟩)) av_nil) ra_tuple) av_nil))⟩) ?_) ?_)
  · rw [List.length_zipIdx]; omega
  · unfold CT.laterNear
    rw [List.map_map]
    rfl
end
end CW
/-! M3 -/
/-! M3: ways in breadth: short ones, so without a chord. -/
namespace CT
variable {α : Type} [DecidableEq α]
def wk (w : Ways α) : List α := w.map (·.1)
theorem look_none {w : Ways α} {x : α} (h : x ∉ wk w) : w.lookup x = none := by
  induction w with
  | nil => rfl
  | cons p w ih =>
    obtain ⟨k, v⟩ := p
    have h1 : x ≠ k := fun e => h (by rw [e]; exact List.mem_cons_self)
    have h2 : x ∉ wk w := fun e => h (List.mem_cons_of_mem _ e)
    rw [List.lookup_cons]
    have e : (x == k) = false := by simpa using h1
    rw [e]
    exact ih h2
theorem look_some {w : Ways α} {x : α} {v : List α} (hn : (wk w).Nodup) (h : (x, v) ∈ w) : w.lookup x = some v := by
  induction w with
  | nil => cases h
  | cons p w ih =>
    obtain ⟨k, u⟩ := p
    have hn' := List.nodup_cons.mp hn
    rw [List.lookup_cons]
    rcases List.mem_cons.mp h with e | e
    · cases e
      rw [beq_self_eq_true]
    · have h1 : x ≠ k := fun z => hn'.1 (by rw [← z]; exact List.mem_map.mpr ⟨_, e, rfl⟩)
      have e2 : (x == k) = false := by simpa using h1
      rw [e2]
      exact ih hn'.2 e
theorem look_mem {w : Ways α} {x : α} {v : List α} (h : w.lookup x = some v) : (x, v) ∈ w := by
  induction w with
  | nil => cases h
  | cons p w ih =>
    obtain ⟨k, u⟩ := p
    rw [List.lookup_cons] at h
    cases e : x == k with
    | true => rw [e] at h; cases h; rw [eq_of_beq e]; exact List.mem_cons_self
    | false => rw [e] at h; exact List.mem_cons_of_mem _ (ih h)
theorem mem_wk {w : Ways α} {x : α} (h : x ∈ wk w) : ∃ v, (x, v) ∈ w := by
  obtain ⟨⟨k, v⟩, h1, h2⟩ := List.mem_map.mp h
  exact ⟨v, by rw [← h2]; exact h1⟩
theorem wk_mem {w : Ways α} {x : α} {v : List α} (h : (x, v) ∈ w) : x ∈ wk w := List.mem_map.mpr ⟨_, h, rfl⟩
theorem wk_app (a b : Ways α) : wk (a ++ b) = wk a ++ wk b := List.map_append ..
theorem look_one {w : Ways α} {x : α} {u v : List α} (hn : (wk w).Nodup) (h : (x, u) ∈ w) (h2 : (x, v) ∈ w) : u = v := by
  have e := look_some hn h
  rw [look_some hn h2] at e
  cases e; rfl
theorem look_iff {w : Ways α} {x : α} : (w.lookup x).isSome = true ↔ x ∈ wk w := by
  constructor
  · intro h
    obtain ⟨v, hv⟩ := Option.isSome_iff_exists.mp h
    exact wk_mem (look_mem hv)
  · intro h
    cases e : w.lookup x with
    | some v => rfl
    | none =>
      exfalso
      induction w with
      | nil => cases h
      | cons p w ih =>
        obtain ⟨k, u⟩ := p
        rw [List.lookup_cons] at e
        cases e2 : x == k with
        | true => rw [e2] at e; cases e
        | false =>
          rw [e2] at e
          refine ih ?_ e
          rcases List.mem_cons.mp h with z | z
          · have z' : x = k := z
            rw [z', beq_self_eq_true] at e2; cases e2
          · exact z
section
variable (ps : List α) (n : α → α → Bool) (b : α) (A : List α)
/-- done D, waiting W, the ways' lengths about c -/
structure Bi (D W : Ways α) (c : Nat) : Prop where
  nd : (wk (D ++ W)).Nodup
  pre : ∀ x w, (x, w) ∈ D ++ W → (x = b ∧ w = [b]) ∨ ∃ y v, (y, v) ∈ D ∧ w = v ++ [x] ∧ x ∈ leftNear ps n y A
  srt : W.Pairwise fun p q => p.2.length ≤ q.2.length
  cap : ∀ e ∈ D ++ W, e.2.length ≤ c + 1
  low : ∀ e ∈ W, c ≤ e.2.length
  bg : b ∈ wk (D ++ W)
variable {ps n b A}
theorem left_mem {y x : α} {A : List α} : x ∈ leftNear ps n y A ↔ x ∈ ps ∧ n y x = true ∧ x ≠ y ∧ x ∈ A := by
  unfold leftNear tied
  simp only [List.mem_filter]
  constructor
  · rintro ⟨⟨⟨h1, h2⟩, h3⟩, h4⟩
    exact ⟨h1, h2, by simpa using h3, by simpa using h4⟩
  · rintro ⟨h1, h2, h3, h4⟩
    exact ⟨⟨⟨h1, h2⟩, by simpa using h3⟩, by simpa using h4⟩
theorem Bi.sub {D W : Ways α} {c : Nat} (h : Bi ps n b A D W c) (hb : b ∈ ps) : ∀ x ∈ wk (D ++ W), x ∈ ps := fun x hx => by
  obtain ⟨v, hv⟩ := mem_wk hx
  rcases h.pre x v hv with ⟨e, _⟩ | ⟨y, u, _, _, e⟩
  · rw [e]; exact hb
  · exact (left_mem.mp e).1
theorem Bi.len {D W : Ways α} {c : Nat} (h : Bi ps n b A D W c) (hb : b ∈ ps) : D.length + W.length ≤ ps.length := by
  have := len_le_of_sub h.nd (h.sub hb)
  unfold wk at this
  rwa [List.length_map, List.length_append] at this
/-- the turns of the inner loop -/
theorem Bi.inner {D : Ways α} {x : α} {w : List α} (hx : (x, w) ∈ D) : ∀ (ls : List α) (W : Ways α), Bi ps n b A D W w.length → (∀ z ∈ ls, z ∈ leftNear ps n x A) →
    ∃ W', ls.foldl (visit x) (D ++ W, wk W) = (D ++ W', wk W') ∧ Bi ps n b A D W' w.length ∧ (∀ z ∈ ls, z ∈ wk (D ++ W')) ∧ ∀ e ∈ W, e ∈ W'
  | [], W, h, _ => ⟨W, rfl, h, ⟨fun z hz => absurd hz List.not_mem_nil, fun e he => he⟩⟩
  | z :: ls, W, h, hl => by
    by_cases hz : z ∈ wk (D ++ W)
    · have e : visit x (D ++ W, wk W) z = (D ++ W, wk W) := if_pos (look_iff.mpr hz)
      obtain ⟨W', h1, h2, h3, h4⟩ := Bi.inner hx ls W h fun y hy => hl y (List.mem_cons_of_mem _ hy)
      refine ⟨W', ?_, h2, fun y hy => ?_, h4⟩
      · rw [List.foldl_cons, e]; exact h1
      · rcases List.mem_cons.mp hy with rfl | hy
        · rw [wk_app] at hz ⊢
          rcases List.mem_append.mp hz with hz | hz
          · exact List.mem_append_left _ hz
          · obtain ⟨v, hv⟩ := mem_wk hz
            exact List.mem_append_right _ (wk_mem (h4 _ hv))
        · exact h3 y hy
    · have hlk : (D ++ W).lookup x = some w := look_some h.nd (List.mem_append_left _ hx)
      have e : visit x (D ++ W, wk W) z = (D ++ (W ++ [(z, w ++ [z])]), wk (W ++ [(z, w ++ [z])])) := by
        have e0 : visit x (D ++ W, wk W) z = ((D ++ W) ++ [(z, (((D ++ W).lookup x).getD []) ++ [z])], wk W ++ [z]) := if_neg fun q => hz (look_iff.mp q)
        rw [e0, hlk, wk_app, List.append_assoc]
        rfl
      have hzl := hl z List.mem_cons_self
      have hk : wk (D ++ (W ++ [(z, w ++ [z])])) = wk (D ++ W) ++ [z] := by rw [← List.append_assoc, wk_app]; rfl
      have h' : Bi ps n b A D (W ++ [(z, w ++ [z])]) w.length := by
        refine ⟨?_, fun y v hy => ?_, ?_, fun f hf => ?_, fun f hf => ?_, ?_⟩
        · rw [hk, List.nodup_append]
          refine ⟨h.nd, by simp, fun a ha c hc => ?_⟩
          rw [List.mem_singleton] at hc
          rw [hc]; exact fun q => hz (by rw [← q]; exact ha)
        · rw [← List.append_assoc] at hy
          rcases List.mem_append.mp hy with hy | hy
          · exact h.pre y v hy
          · cases List.mem_singleton.mp hy
            exact .inr ⟨x, w, hx, rfl, hzl⟩
        · rw [List.pairwise_append]
          refine ⟨h.srt, by simp, fun p hp q hq => ?_⟩
          cases List.mem_singleton.mp hq
          have := h.cap p (List.mem_append_right _ hp)
          simpa using this
        · rw [← List.append_assoc] at hf
          rcases List.mem_append.mp hf with hf | hf
          · exact h.cap f hf
          · cases List.mem_singleton.mp hf
            simp
        · rcases List.mem_append.mp hf with hf | hf
          · exact h.low f hf
          · cases List.mem_singleton.mp hf
            simp
        · rw [hk]; exact List.mem_append_left _ h.bg
      obtain ⟨W', h1, h2, h3, h4⟩ := Bi.inner hx ls _ h' fun y hy => hl y (List.mem_cons_of_mem _ hy)
      refine ⟨W', ?_, h2, fun y hy => ?_, fun f hf => h4 f (List.mem_append_left _ hf)⟩
      · rw [List.foldl_cons, e]; exact h1
      · rcases List.mem_cons.mp hy with rfl | hy
        · have := h4 (y, w ++ [y]) (List.mem_append_right _ (List.mem_singleton.mpr rfl))
          rw [wk_app]
          exact List.mem_append_right _ (wk_mem this)
        · exact h3 y hy
/-- the state at each turn of the outer loop -/
structure Bo (ps : List α) (n : α → α → Bool) (b : α) (A : List α) (i : Nat) (s : Ways α × List α) (D W : Ways α) : Prop where
  e : s = (D ++ W, wk W)
  ln : D.length = i
  bi : ∃ c, c ≤ i + 1 ∧ Bi ps n b A D W c
  clo : ∀ y v, (y, v) ∈ D → ∀ z ∈ leftNear ps n y A, ∃ u, (z, u) ∈ D ++ W ∧ u.length ≤ v.length + 1
/-- the head of the waiting goes to the done -/
theorem Bi.move {D W : Ways α} {c : Nat} {x : α} {w : List α} (h : Bi ps n b A D ((x, w) :: W) c) : Bi ps n b A (D ++ [(x, w)]) W w.length := by
  have e : D ++ [(x, w)] ++ W = D ++ (x, w) :: W := by simp
  have hs := List.pairwise_cons.mp h.srt
  refine ⟨by rw [e]; exact h.nd, fun y v hy => ?_, hs.2, fun f hf => ?_, fun f hf => hs.1 f hf, by rw [e]; exact h.bg⟩
  · rw [e] at hy
    rcases h.pre y v hy with z | ⟨y', v', a1, a2⟩
    · exact .inl z
    · exact .inr ⟨y', v', List.mem_append_left _ a1, a2⟩
  · rw [e] at hf
    have h1 := h.cap f hf
    have h2 := h.low (x, w) List.mem_cons_self
    have h3 : c ≤ w.length := h2
    omega
theorem bfs_inv {left : List α} {fin : α} (hA : A = left ++ [fin]) : ∀ i, (∀ j, j < i → (bfsIt ps n left b fin j).2 ≠ []) → ∃ D W, Bo ps n b A i (bfsIt ps n left b fin i) D W
  | 0, _ => ⟨[], [(b, [b])], rfl, rfl, ⟨1, Nat.le_refl _, by simp [wk], fun x w hx => by cases List.mem_singleton.mp hx; exact .inl ⟨rfl, rfl⟩, by simp, fun e he => by cases List.mem_singleton.mp he; simp, fun e he => by cases List.mem_singleton.mp he; simp, List.mem_singleton.mpr rfl⟩,
      fun y v hy => nomatch hy⟩
  | i + 1, hne => by
    obtain ⟨D, W, h⟩ := bfs_inv hA i fun j hj => hne j (Nat.lt_succ_of_lt hj)
    have h0 := hne i (Nat.lt_succ_self i)
    cases W with
    | nil => rw [h.e] at h0; exact absurd rfl h0
    | cons p W =>
      obtain ⟨x, w⟩ := p
      obtain ⟨c, hcl, hc⟩ := h.bi
      have hm := hc.move
      have e1 : bfsIt ps n left b fin (i + 1) = (leftNear ps n x A).foldl (visit x) (D ++ [(x, w)] ++ W, wk W) := by
        show bfsStep ps n left fin (bfsIt ps n left b fin i) = _
        rw [h.e, hA]
        show (leftNear ps n x (left ++ [fin])).foldl (visit x) (D ++ (x, w) :: W, wk W) = _
        simp
      obtain ⟨W', h1, h2, h3, h4⟩ := Bi.inner (List.mem_append_right D (List.mem_singleton.mpr rfl)) (leftNear ps n x A) W hm fun z hz => hz
      have mono : ∀ f ∈ D ++ (x, w) :: W, f ∈ (D ++ [(x, w)]) ++ W' := fun f hf => by
        rcases List.mem_append.mp hf with hf | hf
        · exact List.mem_append_left _ (List.mem_append_left _ hf)
        · rcases List.mem_cons.mp hf with rfl | hf
          · exact List.mem_append_left _ (List.mem_append_right _ (List.mem_singleton.mpr rfl))
          · exact List.mem_append_right _ (h4 f hf)
      refine ⟨D ++ [(x, w)], W', by rw [e1, h1], by rw [List.length_append, h.ln]; rfl, ⟨_, by have : w.length ≤ c + 1 := hc.cap (x, w) (List.mem_append_right _ List.mem_cons_self); omega, h2⟩, fun y v hy z hz => ?_⟩
      rcases List.mem_append.mp hy with hy | hy
      · obtain ⟨u, hu, hl⟩ := h.clo y v hy z hz
        exact ⟨u, mono _ hu, hl⟩
      · cases List.mem_singleton.mp hy
        obtain ⟨u, hu⟩ := mem_wk (h3 z hz)
        exact ⟨u, hu, h2.cap _ hu⟩
theorem bfs_stop {left : List α} {fin : α} {k : Nat} (h : (bfsIt ps n left b fin k).2 = []) : ∀ j, k ≤ j → bfsIt ps n left b fin j = bfsIt ps n left b fin k := by
  intro j hj
  induction j with
  | zero => rw [Nat.le_zero.mp hj]
  | succ j ih =>
    by_cases e : k = j + 1
    · rw [e]
    · have h2 := ih (by omega)
      show bfsStep ps n left fin (bfsIt ps n left b fin j) = _
      rw [h2]
      unfold bfsStep
      rw [h]
theorem bfs_kk (hb : b ∈ ps) (left : List α) (fin : α) : ∃ kk, kk ≤ ps.length ∧ (∀ i, i < kk → (bfsIt ps n left b fin i).2 ≠ []) ∧ (bfsIt ps n left b fin kk).2 = [] ∧ wayBetween ps n left b fin = (bfsIt ps n left b fin kk).1.lookup fin := by
  rcases least (fun i => (bfsIt ps n left b fin i).2 = []) (ps.length + 1) with h | ⟨k, h1, h2, h3⟩
  · obtain ⟨D, W, ho⟩ := bfs_inv (ps := ps) (n := n) (b := b) rfl ps.length fun j hj => h j (Nat.lt_succ_of_lt hj)
    obtain ⟨c, hcl, hc⟩ := ho.bi
    have h4 := hc.len hb
    have h5 : W = [] := List.eq_nil_of_length_eq_zero (by have := ho.ln; omega)
    refine absurd ?_ (h ps.length (Nat.lt_succ_self _))
    rw [ho.e, h5]; rfl
  · refine ⟨k, Nat.le_of_lt_succ h1, h2, h3, ?_⟩
    unfold wayBetween
    rw [bfs_stop h3 _ (Nat.le_of_lt h1)]
/-! ### the way found -/
structure WayOk (ps : List α) (n : α → α → Bool) (b e : α) (A w : List α) : Prop where
  hd : w[0]? = some b
  ls : w.getLast? = some e
  nd : w.Nodup
  nx : ∀ (i : Nat) x y, w[i]? = some x → w[i + 1]? = some y → n x y = true
  ch : ∀ (i j : Nat) x y, i + 1 < j → w[i]? = some x → w[j]? = some y → n x y = false
  on : ∀ x ∈ w, x = b ∨ (x ∈ ps ∧ x ∈ A)
theorem way_pre {D : Ways α} {c : Nat} (h : Bi ps n b A D [] c) : ∀ (k : Nat) (x : α) (w : List α), w.length ≤ k → (x, w) ∈ D → w ≠ [] ∧ w.getLast? = some x ∧ w[0]? = some b ∧ (∀ (j : Nat) y, w[j]? = some y → (y, w.take (j + 1)) ∈ D) ∧
    (∀ (i : Nat) y z, w[i]? = some y → w[i + 1]? = some z → n y z = true ∧ z ∈ ps ∧ z ∈ A)
  | k, x, w, hl, hx => by
    rcases h.pre x w (List.mem_append_left _ hx) with ⟨rfl, rfl⟩ | ⟨y, v, hy, rfl, hz⟩
    · refine ⟨by simp, rfl, rfl, fun j y hj => ?_, fun i y z _ h2 => ?_⟩
      · cases j with
        | zero => cases hj; exact hx
        | succ j => cases hj
      · cases h2
    · cases k with
      | zero => simp at hl
      | succ k =>
        obtain ⟨a1, a2, a3, a4, a5⟩ := way_pre h k y v (by simp at hl; omega) hy
        refine ⟨by simp, by simp, ?_, fun j u hj => ?_, fun i u z h1 h2 => ?_⟩
        · rw [List.getElem?_append_left (List.length_pos_iff.mpr a1)]; exact a3
        · by_cases q : j < v.length
          · rw [List.getElem?_append_left q] at hj
            rw [List.take_append_of_le_length (by omega)]
            exact a4 j u hj
          · rw [List.getElem?_append_right (by omega)] at hj
            have e : j - v.length = 0 := by
              have := (List.getElem?_eq_some_iff.mp hj).1
              simp at this; omega
            rw [e] at hj
            cases hj
            rw [List.take_of_length_le (by simp; omega)]
            exact hx
        · by_cases q : i + 1 < v.length
          · rw [List.getElem?_append_left (by omega)] at h1
            rw [List.getElem?_append_left q] at h2
            exact a5 i u z h1 h2
          · rw [List.getElem?_append_right (by omega)] at h2
            have e : i + 1 - v.length = 0 := by
              have := (List.getElem?_eq_some_iff.mp h2).1
              simp at this; omega
            have e3 := List.length_pos_iff.mpr a1
            rw [e] at h2
            cases h2
            rw [List.getElem?_append_left (by omega)] at h1
            rw [List.getLast?_eq_getElem?] at a2
            have e4 : v.length - 1 = i := by omega
            rw [e4, h1] at a2
            cases a2
            have := left_mem.mp hz
            exact ⟨this.2.1, this.1, this.2.2.2⟩
theorem way_ok {left : List α} {fin : α} {w : List α} (sy : ∀ x y, n x y = n y x) (hb : b ∈ ps) (h : wayBetween ps n left b fin = some w) : WayOk ps n b fin (left ++ [fin]) w := by
  obtain ⟨kk, _, hne, hend, hw⟩ := bfs_kk (n := n) hb left fin
  obtain ⟨D, W, ho⟩ := bfs_inv (ps := ps) (n := n) (b := b) (left := left) (fin := fin) rfl kk hne
  obtain ⟨c, hcl, hc⟩ := ho.bi
  have hW : W = [] := by
    rw [ho.e] at hend
    exact List.map_eq_nil_iff.mp hend
  subst hW
  rw [hw, ho.e] at h
  have hm : (fin, w) ∈ D := by
    have := look_mem h
    simpa using this
  obtain ⟨a1, a2, a3, a4, a5⟩ := way_pre hc w.length fin w (Nat.le_refl _) hm
  have nd : (wk D).Nodup := by have := hc.nd; simpa using this
  have inj : ∀ (i j : Nat) y, w[i]? = some y → w[j]? = some y → i = j := fun i j y hi hj => by
    have e := look_one nd (a4 i y hi) (a4 j y hj)
    have li := (List.getElem?_eq_some_iff.mp hi).1
    have lj := (List.getElem?_eq_some_iff.mp hj).1
    have := congrArg List.length e
    rw [List.length_take, List.length_take] at this
    omega
  have onl : ∀ (j : Nat) y, w[j + 1]? = some y → y ∈ ps ∧ y ∈ left ++ [fin] := fun j y hj => by
    have lj := (List.getElem?_eq_some_iff.mp hj).1
    have := a5 j w[j] y (List.getElem?_eq_getElem (by omega)) hj
    exact this.2
  refine ⟨a3, a2, ?_, fun i x y h1 h2 => (a5 i x y h1 h2).1, fun i j x y hij h1 h2 => ?_, fun x hx => ?_⟩
  · refine List.pairwise_iff_getElem.mpr fun i j hi hj hij e => ?_
    have := inj i j w[j] (by rw [List.getElem?_eq_getElem hi, e]) (List.getElem?_eq_getElem hj)
    omega
  · cases e : n x y with
    | false => rfl
    | true =>
      exfalso
      cases j with
      | zero => omega
      | succ j =>
        have hxy : y ≠ x := fun q => by
          subst q
          have := inj i (j + 1) y h1 h2; omega
        have ho2 := onl j y h2
        obtain ⟨u, hu, hl⟩ := ho.clo x _ (a4 i x h1) y (left_mem.mpr ⟨ho2.1, e, hxy, ho2.2⟩)
        have hu' : (y, u) ∈ D := by simpa using hu
        have e2 := look_one nd hu' (a4 (j + 1) y h2)
        have li := (List.getElem?_eq_some_iff.mp h1).1
        have lj := (List.getElem?_eq_some_iff.mp h2).1
        rw [e2, List.length_take, List.length_take] at hl
        omega
  · obtain ⟨j, hj, rfl⟩ := List.getElem_of_mem hx
    cases j with
    | zero =>
      rw [List.getElem?_eq_getElem hj] at a3
      exact .inl (by injection a3)
    | succ j => exact .inr (onl j _ (List.getElem?_eq_getElem hj))
/-- what can be reached is found -/
theorem way_some {left : List α} {fin : α} (hb : b ∈ ps) (h : Reach n (fun z => z ∈ ps ∧ z ∈ left ++ [fin]) b fin) : ∃ w, wayBetween ps n left b fin = some w := by
  obtain ⟨kk, _, hne, hend, hw⟩ := bfs_kk (n := n) hb left fin
  obtain ⟨D, W, ho⟩ := bfs_inv (ps := ps) (n := n) (b := b) (left := left) (fin := fin) rfl kk hne
  obtain ⟨c, hcl, hc⟩ := ho.bi
  have hW : W = [] := by
    rw [ho.e] at hend
    exact List.map_eq_nil_iff.mp hend
  subst hW
  have key : ∀ z, Reach n (fun z => z ∈ ps ∧ z ∈ left ++ [fin]) b z → z ∈ wk D := fun z r => by
    induction r with
    | refl => have := hc.bg; simpa using this
    | @step y z r e p ih =>
      obtain ⟨v, hv⟩ := mem_wk ih
      by_cases q : z = y
      · rw [q]; exact ih
      · obtain ⟨u, hu, _⟩ := ho.clo y v hv z (left_mem.mpr ⟨p.1, e, q, p.2⟩)
        have hu' : (z, u) ∈ D := by simpa using hu
        exact wk_mem hu'
  obtain ⟨v, hv⟩ := mem_wk (key fin h)
  have nd : (wk D).Nodup := by have := hc.nd; simpa using this
  refine ⟨v, ?_⟩
  rw [hw, ho.e]
  show (D ++ []).lookup fin = _
  rw [List.append_nil]
  exact look_some nd hv
/-! ### long rings -/
structure LongR (ps : List α) (n : α → α → Bool) (r : List α) : Prop where
  nd : r.Nodup
  ln : 4 ≤ r.length
  on : ∀ x ∈ r, x ∈ ps
  nx : ∀ (i : Nat) x y, r[i]? = some x → r[i + 1]? = some y → n x y = true
  cl : ∀ x y, r[0]? = some x → r.getLast? = some y → n x y = true
  ch : ∀ (i j : Nat) x y, i + 1 < j → r[i]? = some x → r[j]? = some y → n x y = true → i = 0 ∧ j + 1 = r.length
theorem ring_ok {left : List α} {post one other : α} {r : List α} (sy : ∀ x y, n x y = n y x) (rf : ∀ x, n x x = true) (hl : ∀ x ∈ left, x ∈ ps) (hp : post ∈ left) (h1 : one ∈ leftNear ps n post left) (h2 : other ∈ leftNear ps n post left)
    (h : ringPair ps n left post one other = some r) : LongR ps n r := by
  unfold ringPair at h
  by_cases hno : n one other = true
  · rw [if_pos hno] at h; cases h
  · rw [if_neg hno] at h
    obtain ⟨w, hw, rfl⟩ := Option.map_eq_some_iff.mp h
    have m1 := left_mem.mp h1
    have m2 := left_mem.mp h2
    have ok := way_ok sy (hl one m1.2.2.2) hw
    have free : ∀ x ∈ w, x ≠ one → x ≠ other → n post x = false ∧ x ≠ post := fun x hx n1 n2 => by
      rcases ok.on x hx with z | ⟨_, z⟩
      · exact absurd z n1
      · rcases List.mem_append.mp z with z | z
        · rcases List.mem_cons.mp z with z | z
          · exact absurd z n1
          · have := (List.mem_filter.mp z).2
            rw [Bool.and_eq_true] at this
            refine ⟨?_, by simpa using this.1⟩
            rw [sy]
            simpa using this.2
        · exact absurd (List.mem_singleton.mp z) n2
    have wps : ∀ x ∈ w, x ∈ ps := fun x hx => by
      rcases ok.on x hx with z | ⟨z, _⟩
      · rw [z]; exact m1.1
      · exact z
    have hne : one ≠ other := fun e => hno (by rw [e]; exact rf other)
    have w0 := (List.getElem?_eq_some_iff.mp ok.hd).1
    have hlast := ok.ls
    rw [List.getLast?_eq_getElem?] at hlast
    have l3 : 3 ≤ w.length := by
      by_cases q1 : w.length = 1
      · rw [q1] at hlast
        have e := ok.hd
        rw [hlast] at e
        cases e
        exact absurd rfl hne
      · by_cases q2 : w.length = 2
        · rw [q2] at hlast
          exact absurd (ok.nx 0 one other ok.hd hlast) hno
        · omega
    have pnw : post ∉ w := fun z => by
      by_cases q1 : post = one
      · exact m1.2.2.1 q1.symm
      · by_cases q2 : post = other
        · exact m2.2.2.1 q2.symm
        · exact (free post z q1 q2).2 rfl
    have inj : ∀ (i j : Nat) y, w[i]? = some y → w[j]? = some y → i = j := fun i j y hi hj => by
      obtain ⟨li, ei⟩ := List.getElem?_eq_some_iff.mp hi
      obtain ⟨lj, ej⟩ := List.getElem?_eq_some_iff.mp hj
      exact (List.getElem_inj ok.nd).mp (ei.trans ej.symm)
    have at0 : ∀ (i : Nat) x, w[i]? = some x → x = one → i = 0 := fun i x hx e => by
      subst e
      exact inj i 0 x hx ok.hd
    have atL : ∀ (i : Nat) x, w[i]? = some x → x = other → i + 1 = w.length := fun i x hx e => by
      subst e
      have := inj i (w.length - 1) x hx hlast
      omega
    refine ⟨List.nodup_cons.mpr ⟨pnw, ok.nd⟩, by rw [List.length_cons]; omega, fun x hx => ?_, fun i x y hx hy => ?_, fun x y hx hy => ?_, fun i j x y hij hx hy hn => ?_⟩
    · rcases List.mem_cons.mp hx with rfl | hx
      · exact hl _ hp
      · exact wps x hx
    · cases i with
      | zero =>
        have e1 : post = x := by simpa using hx
        have e2 : w[0]? = some y := by simpa using hy
        rw [ok.hd] at e2
        cases e2
        rw [← e1]; exact m1.2.1
      | succ i => exact ok.nx i x y (by simpa using hx) (by simpa using hy)
    · have e1 : post = x := by simpa using hx
      rw [List.getLast?_eq_getElem?] at hy
      have e2 : w[w.length - 1]? = some y := by
        have : (post :: w).length - 1 = (w.length - 1) + 1 := by rw [List.length_cons]; omega
        rw [this] at hy
        simpa using hy
      rw [hlast] at e2
      cases e2
      rw [← e1]; exact m2.2.1
    · cases j with
      | zero => omega
      | succ j =>
        have hy' : w[j]? = some y := by simpa using hy
        have hym : y ∈ w := List.mem_of_getElem? hy'
        cases i with
        | zero =>
          have e1 : post = x := by simpa using hx
          subst e1
          have q1 : y ≠ one := fun e => by have := at0 j y hy' e; omega
          by_cases q2 : y = other
          · have := atL j y hy' q2
            refine ⟨rfl, by rw [List.length_cons]; omega⟩
          · rw [(free y hym q1 q2).1] at hn; cases hn
        | succ i =>
          have hx' : w[i]? = some x := by simpa using hx
          rw [ok.ch i j x y (by omega) hx' hy'] at hn
          cases hn
/-- a long ring is found where something is left -/
theorem longRing_ok {r : List α} (hn : ps.Nodup) (sy : ∀ x y, n x y = n y x) (rf : ∀ x, n x x = true) (h : longRing ps n = some r) : LongR ps n r := by
  unfold longRing at h
  obtain ⟨kk, _, _, _, hpe⟩ := peel_kk (ps := ps) (n := n)
  have hl : ∀ x ∈ (peeled ps n).2, x ∈ ps := fun x hx => by rw [hpe] at hx; exact (peelIt_inv hn kk).2.subset hx
  obtain ⟨post, hpo, h⟩ := List.exists_of_findSome?_eq_some h
  unfold ringAt at h
  obtain ⟨⟨one, k⟩, hq, h⟩ := List.exists_of_findSome?_eq_some h
  obtain ⟨other, ho, h⟩ := List.exists_of_findSome?_eq_some h
  have h1 := List.mem_zipIdx' hq
  refine ring_ok sy rf hl hpo (one := one) (other := other) ?_ (List.mem_of_mem_drop ho) h
  rw [h1.2]; exact List.getElem_mem h1.1
theorem findSome_ne {β γ : Type} {l : List β} {f : β → Option γ} {x : β} (h : x ∈ l) (hf : f x ≠ none) : l.findSome? f ≠ none := fun e => hf (List.findSome?_eq_none_iff.mp e x h)
theorem mem_split2 {l : List α} {x y : α} (hx : x ∈ l) (hy : y ∈ l) (hne : x ≠ y) : (∃ k, (x, k) ∈ l.zipIdx ∧ y ∈ l.drop (k + 1)) ∨ ∃ k, (y, k) ∈ l.zipIdx ∧ x ∈ l.drop (k + 1) := by
  obtain ⟨i, hi, rfl⟩ := List.getElem_of_mem hx
  obtain ⟨j, hj, rfl⟩ := List.getElem_of_mem hy
  have z : ∀ (k : Nat) (hk : k < l.length), (l[k], k) ∈ l.zipIdx := fun k hk => by
    rw [List.mem_iff_getElem?]
    refine ⟨k, ?_⟩
    rw [List.getElem?_zipIdx, List.getElem?_eq_getElem hk]
    simp
  have dr : ∀ (k m : Nat) (hm : m < l.length), k < m → l[m] ∈ l.drop (k + 1) := fun k m hm hkm => by
    rw [List.mem_drop_iff_getElem]
    refine ⟨m - (k + 1), by omega, ?_⟩
    have : m - (k + 1) + (k + 1) = m := by omega
    congr 1
    omega
  rcases Nat.lt_trichotomy i j with h | h | h
  · exact .inl ⟨i, z i hi, dr i j hj h⟩
  · subst h; exact absurd rfl hne
  · exact .inr ⟨j, z j hj, dr j i hi h⟩
theorem areNear_iff {xs : List α} : areNear n xs = true ↔ ∀ a ∈ xs, ∀ b ∈ xs, n a b = true := by
  unfold areNear
  rw [List.all_eq_true]
  constructor
  · intro h a ha b hb
    exact h _ (List.mem_flatMap.mpr ⟨a, ha, List.mem_map.mpr ⟨b, hb, rfl⟩⟩)
  · intro h x hx
    obtain ⟨a, ha, hx⟩ := List.mem_flatMap.mp hx
    obtain ⟨b, hb, rfl⟩ := List.mem_map.mp hx
    exact h a ha b hb
theorem longRing_some (hn : ps.Nodup) (sy : ∀ x y, n x y = n y x) (rf : ∀ x, n x x = true) (h : (peeled ps n).2 ≠ []) : ∃ r, longRing ps n = some r := by
  obtain ⟨kk, _, _, hend, hpe⟩ := peel_kk (ps := ps) (n := n)
  rw [← hpe] at hend
  have hsub : (peeled ps n).2.Sublist ps := by rw [hpe]; exact (peelIt_inv hn kk).2
  have key : longRing ps n ≠ none := fun hno => by
    have hno' := fun post hpo => List.findSome?_eq_none_iff.mp hno post hpo
    obtain ⟨x, hx, hs⟩ := simplicial rf sy _ (peeled ps n).2 (hsub.nodup hn) (Nat.le_refl _) h fun x hx a ha b hb hxa hxb hab r => by
      have hax : a ≠ x := fun e => by rw [e, hxb] at hab; cases hab
      have hbx : b ≠ x := fun e => by rw [e, sy, hxa] at hab; cases hab
      have hne : a ≠ b := fun e => by rw [e, rf] at hab; cases hab
      have ma : a ∈ leftNear ps n x (peeled ps n).2 := left_mem.mpr ⟨hsub.subset ha, hxa, hax, ha⟩
      have mb : b ∈ leftNear ps n x (peeled ps n).2 := left_mem.mpr ⟨hsub.subset hb, hxb, hbx, hb⟩
      have fr : ∀ z, z ∈ (peeled ps n).2 → n z x = false → z ∈ ps ∧ z ∈ freeOf n (peeled ps n).2 x := fun z hz hzx => by
        refine ⟨hsub.subset hz, List.mem_filter.mpr ⟨hz, ?_⟩⟩
        have : z ≠ x := fun e => by rw [e, rf] at hzx; cases hzx
        rw [hzx]
        simpa using this
      have some1 : ringPair ps n (peeled ps n).2 x a b ≠ none := by
        have r1 : Reach n (fun z => z ∈ ps ∧ z ∈ (a :: freeOf n (peeled ps n).2 x) ++ [b]) a b := r.mono fun z hz => by
          rcases hz with rfl | ⟨h1, h2⟩
          · exact ⟨hsub.subset hb, by simp⟩
          · have := fr z h1 h2
            exact ⟨this.1, by simp [this.2]⟩
        obtain ⟨w, hw⟩ := way_some (hsub.subset ha) r1
        unfold ringPair
        rw [if_neg (by rw [hab]; exact Bool.false_ne_true), hw]
        exact fun e => by cases e
      have some2 : ringPair ps n (peeled ps n).2 x b a ≠ none := by
        have r2 : Reach n (fun z => (z = b ∨ z = a ∨ (z ∈ (peeled ps n).2 ∧ n z x = false))) b a := by
          refine Reach.symm sy (r.mono fun z hz => ?_) (.inr (.inl rfl))
          rcases hz with e | e
          · exact .inl e
          · exact .inr (.inr e)
        have r1 : Reach n (fun z => z ∈ ps ∧ z ∈ (b :: freeOf n (peeled ps n).2 x) ++ [a]) b a := r2.mono fun z hz => by
          rcases hz with rfl | rfl | ⟨h1, h2⟩
          · exact ⟨hsub.subset hb, by simp⟩
          · exact ⟨hsub.subset ha, by simp⟩
          · have := fr z h1 h2
            exact ⟨this.1, by simp [this.2]⟩
        obtain ⟨w, hw⟩ := way_some (hsub.subset hb) r1
        unfold ringPair
        rw [if_neg (by rw [sy, hab]; exact Bool.false_ne_true), hw]
        exact fun e => by cases e
      have hno2 : ringAt ps n (peeled ps n).2 x = none := hno' x hx
      unfold ringAt at hno2
      rcases mem_split2 ma mb hne with ⟨k, h1, h2⟩ | ⟨k, h1, h2⟩
      · exact some1 (List.findSome?_eq_none_iff.mp (List.findSome?_eq_none_iff.mp hno2 (a, k) h1) b h2)
      · exact some2 (List.findSome?_eq_none_iff.mp (List.findSome?_eq_none_iff.mp hno2 (b, k) h1) a h2)
    have hf : x ∈ free ps n (peeled ps n).2 := List.mem_filter.mpr ⟨hx, areNear_iff.mpr fun a ha b hb => by
      have m1 := left_mem.mp ha
      have m2 := left_mem.mp hb
      exact hs a m1.2.2.2 b m2.2.2.2 m1.2.1 m2.2.1⟩
    rw [hend] at hf
    cases hf
  cases e : longRing ps n with
  | none => exact absurd e key
  | some r => exact ⟨r, rfl⟩
end
end CT
/-! P3 -/
/-! P3: long rings. -/
namespace CW
open PySem PySem.Spec PyProof.Rows L2
section
variable {Γ : Gam} {ρ : Rho} {K : PySem.W.Frag}
/-- t[:n] -/
theorem ev_toT {te : TE} {th : TO} {ds : List D} {i : Int} {n : Nat} (h : EvD Γ te ρ (.tup ds)) (hl : PvD Γ th ρ (some i)) (hi : i = (n : Int)) : EvD Γ (tSl (rSlA K) te tNoPart th) ρ (.tup (ds.take n)) := fun σ S H s k Q q =>
  h σ S H s k _ fun v S1 H1 n1 a => hl σ S1 H1 (s.mono n1.ex) n1.ok _ fun S2 H2 n2 => by
    subst hi
    cases a with
    | tup e al =>
      rename_i p vs
      have al2 := (al.mono n2.ex).take n
      refine ⟨_, _, rfl, .of (n2.ok.ex _ _ (n2.ex _ _ e)), fun hw => ?_, fun _ q' hq => ?_⟩
      · have e0 : vs.take n = vs := by
          have := hw.2
          rw [HT.sIx_nat] at this
          exact List.take_of_length_le (by omega)
        rw [e0] at al2
        exact q _ S2 H2 (n1.trans n2) (.tup (n2.ex _ _ e) al2)
      · refine q _ _ _ ((n1.trans n2).trans (.new n2.ok hq _)) (.tup (vs := vs.take n) ?_ (al2.mono (Ex.new (n2.ok.fresh hq))))
        rw [upd_same]
        unfold cutV
        rw [cut_to]
/-- {k: v} -/
theorem ev_disp1 {tk tv : TE} {x : Str} {d : D} (hk : EvD Γ tk ρ (.str x)) (hv : EvD Γ tv ρ d) : EvN Γ (tDisp [(tk, tv)]) ρ (.dic [(x, d)]) := fun σ S H s k Q q => by
  intro Dl hD
  have n0 : Nx Γ S H S (upd H Dl (.dK [])) := .hid k hD _
  have hS := k.fresh hD
  refine hk σ S _ s n0.ok _ fun y S1 H1 n1 a1 => ?_
  cases a1
  refine hv σ S1 H1 (s.mono n1.ex) n1.ok _ fun v S2 H2 n2 a2 => ?_
  have n12 := n1.trans n2
  have ne : upd H Dl (.dK []) Dl ≠ none := fun z => by rw [upd_same] at z; cases z
  have hd2 : H2 Dl = some (.dK []) := n12.fr Dl _ (k.nb hD) upd_same
  have hs2 : S2 Dl = none := (n12.old Dl ne).trans hS
  refine ⟨hd2, [(Sum.inr x, v)], rfl, Nat.succ_le_succ (Nat.zero_le _), ?_⟩
  exact q Dl S2 _ _ ((n0.trans n12).mut hD hs2 hd2 (fun z => z) k _) hD hs2 upd_same (.dK (.cons a2 .nil))
end
def optX : Option (List Str) → D
  | none => .non
  | some xs => .tupX xs
def tTupF (t : TA) : TE := fun σ H Q => t σ H fun vs H1 => vs.length ≤ sizeLine ∧ ∀ p ob, H1 p = none → ob.cls = .type "tuple" → ob.dict = none → Q (.ref p) (upd H1 p (.frz ob (.tup vs)))
theorem pe_tupF {X : Cx} {es : List Expr} {t : TA} {k : Nat} {pos : Pos} (h : PA X es t) : PE X (.Tuple es k pos) (tTupF t) := by
  refine ⟨fun pins s σ H Q I hq => ?_⟩
  refine wpAny_Tuple_spliced (thn (h.run pos pins s σ H _ I hq) fun us s1 ⟨ws, H1, I1, rw_, z, q⟩ => ⟨by rw [← rw_.length]; exact z, ?_⟩)
  have at0 := Heap.get?_push_size s1.heap (o := ({ cls := .type "tuple", data := .seq us.toArray } : Obj)) rfl
  exact ⟨.ref s1.heap.objs.size, _, I1.laid (t' := s1.toks) (o := .frz { cls := .type "tuple", data := .seq us.toArray } (.tup ws)) (fun b u e => Heap.get?_push_of_some _ e) (Nat.le_refl _) ⟨at0, z, us, rw_, ⟨_, at0, rfl, _, rfl⟩⟩, rfl, q _ _ (I1.hok.fresh (Nat.le_refl _)) rfl rfl⟩
section
variable {Γ : Gam} {ρ : Rho} {t : TA} {xs : List Str}
theorem av_is {Γ : Gam} {ρ : Rho} {t : TA} {ds es : List D} (h : AvD Γ t ρ ds) (e : ds = es) : AvD Γ t ρ es := e ▸ h
theorem ev_tupF (h : AvD Γ t ρ (sS xs)) (hz : xs.length ≤ 90000) : EvD Γ (tTupF t) ρ (.tupX xs) := fun σ S H s k Q q => h σ S H s k _ fun vs S1 H1 n1 a => by
  have l := a.length
  rw [List.length_map] at l
  rw [a.strs]
  exact ⟨szl (by rw [List.length_map]; omega), fun p ob hp c d => q _ _ _ (n1.trans (.new n1.ok hp _)) (.tupX upd_same c d)⟩
end
def optL : Option (List Str) → D
  | none => .non
  | some xs => .lst (sS xs)
def rArePosts (C : Addr) (as : List D) (d : D) : Prop := ∃ (g : Gr) (xs : List Str), g.Ok ∧ as = [chartD C g, .tup (sS xs)] ∧ xs.Nodup ∧ (∀ x ∈ xs, x ∈ g.ps) ∧ d = .bl true
def rWay (C : Addr) (as : List D) (d : D) : Prop := ∃ (g : Gr) (b e : Str) (left : List Str), g.Ok ∧ as = [chartD C g, .lst (sS left), .str b, .str e] ∧ b ∈ g.ps ∧ left.length ≤ 1000 ∧ d = optL (CT.wayBetween g.ps g.n left b e)
def rRingAt (C : Addr) (as : List D) (d : D) : Prop := ∃ (g : Gr) (p : Str) (left : List Str), g.Ok ∧ as = [chartD C g, .lst (sS left), .str p] ∧ p ∈ g.ps ∧ (∀ x ∈ left, x ∈ g.ps) ∧ left.length ≤ 100 ∧ d = optX (CT.ringAt g.ps g.n left p)
def rLongRing (C : Addr) (as : List D) (d : D) : Prop := ∃ g : Gr, g.Ok ∧ as = [chartD C g] ∧ d = optX (CT.longRing g.ps g.n)
section
variable {P : Program} {w : World} {K : PySem.W.Frag} {mg : Str → Option Value} {base : Heap} {C : Addr} {f : Addr} {fd : FuncData}
theorem sc_are_posts : FnScope ["chart", "value", "place", "post"] ["chart", "value"] (defScope (topS 15)) := ⟨rfl, rfl, rfl, by decide +kernel, rfl, by decide +kernel, by decide +kernel⟩
theorem ok_are_posts (T : Kx K mg C) (F : FnP K "are_posts" "are_posts" (topS 15) f fd) (Mposts : HasM P w K mg base C "posts" ["self"] 1 (spN G0 (rPosts C))) : FnOk P w K mg base CX0 2 f fd ["chart", "value"] (spF G0 (rArePosts C)) := by
  have nd := (sc_are_posts).nd
  have B := T.b
  have cl := T.cl
  refine fn_ok F sc_are_posts (fun as d ⟨g, _, _, e, _⟩ => by rw [e]; rfl) fun cdv A outer s H E hr => ?_
  refine ⟨_, (pss_cons (ps_if (pt_not (pt_val (w_isi K B (pa_cons (pv 1) (pa_cons (pe_bltn (v := .ty "tuple") (by rfl) B.tuple (by decide +kernel) rfl) pa_nil))))) (pss_one (ps_ret pe_bl)) pss_nil)
    (pss_cons (ps_for PassesOwn.never rfl (pi_enumT (by rfl) B.enumerate (pa_cons (pv 1) pa_nil)) (pg_tup (by rfl) (pgs_cons (pg_name (i := 2) nd rfl (Or.inl rfl)) (pgs_cons (pg_name (i := 3) nd rfl (Or.inl rfl)) pgs_nil)))
    (pss_one (ps_if (PW.pt (pw_or (pt_not (pt_val (w_isi K B (pa_cons (pv 3) (pa_cons (pe_bltn (v := .ty "str") (by rfl) B.str (by decide +kernel) rfl) pa_nil))))) (pw_or (pt_cmpR (w_nin K) (pv 3) (pe_hm0 Mposts cl hr (pv 0)) rfl) (pw_or1 (pt_cmpR (w_in K) (pv 3) (pe_slice (w_slT K) (pv 1) po_none (po_some (pv 2))) rfl))))) (pss_one (ps_ret pe_bl)) pss_nil)))
    (pss_one (ps_ret pe_bl)))), ?_⟩
  rintro as d ⟨g, xs, hg, rfl, hn, hx, rfl⟩
  refine SvD.e ?_
  refine sv_seq (sv_if (k := false) (TvD.is (tv_not (tv_B (ev_cb (av_cons (ev_var rfl) (av_cons ev_ty av_nil)) isi_tupY))) rfl) (fun h => by cases h) fun _ => sv_next) ?_
  refine sv_seq (sv_forA (vs := [2, 3]) (wv_enumT (av_cons (ev_var rfl) av_nil)) (fun j _ => rfl) fun i x hi => ?_) (sv_ret ev_bl)
  obtain ⟨p, j⟩ := x
  obtain ⟨h1, h2, h3⟩ := zip_nodup hn (List.mem_of_getElem? hi)
  refine ⟨_, _, gv_tup (gs_cons (gv_name (by decide)) (gs_cons (gv_name (by decide)) gs_nil)), .inl (sv_if (k := false) (TvD.is (tv_or (tv_not (tv_B (ev_cb (av_cons (ev_var rfl) (av_cons ev_ty av_nil)) isi_strY))) fun _ => tv_or
    (tv_test (ev_op (ev_var rfl) (EvN.ev (en_meth0 (ev_var rfl) rfl av_nil ⟨g, hg, rfl, rfl⟩)) rd_ninL)) fun _ =>
    tv_test (ev_op (ev_var rfl) (ev_toT (ev_var rfl) (pv_some (ev_var rfl)) rfl) (by rw [← List.map_take]; exact rd_inT))) ?_) (fun h => by cases h) fun _ => sv_next), rfl⟩
  rw [decide_eq_false h2, decide_eq_true (hx p h1)]; rfl
def waysD (ws : CT.Ways Str) : D := .dic (ws.map fun p => (p.1, .lst (sS p.2)))
theorem ways_look {ws : CT.Ways Str} {x : Str} : (ws.map fun p => (p.1, D.lst (sS p.2))).lookup x = (ws.lookup x).map fun l => .lst (sS l) := by
  induction ws with
  | nil => rfl
  | cons p ws ih =>
    obtain ⟨k, v⟩ := p
    rw [List.map_cons, List.lookup_cons, List.lookup_cons]
    cases x == k with
    | true => rfl
    | false => exact ih
theorem foldl_take {β γ : Type} {f : γ → β → γ} {s : γ} {xs : List β} {i : Nat} {x : β} (h : xs[i]? = some x) : (xs.take (i + 1)).foldl f s = f ((xs.take i).foldl f s) x := by
  rw [List.take_add_one, h, List.foldl_append]; rfl
theorem sS_snoc (xs : List Str) (x : Str) : sS (xs ++ [x]) = sS xs ++ [.str x] := List.map_append ..
theorem sc_way_between : FnScope ["chart", "left", "begin", "end", "ways", "waiting", "here", "post"] ["chart", "left", "begin", "end"] (defScope (topS 16)) := ⟨rfl, rfl, rfl, by decide +kernel, rfl, by decide +kernel, by decide +kernel⟩
theorem ok_way_between (T : Kx K mg C) (F : FnP K "way_between" "way_between" (topS 16) f fd) (Gleft_near : Has P w K mg base "left_near" ["chart", "post", "left"] 6 (spN G0 (rLeftNear C))) : FnOk P w K mg base CX0 7 f fd ["chart", "left", "begin", "end"] (spF G0 (rWay C)) := by
  have nd := (sc_way_between).nd
  have B := T.b
  have cl := T.cl
  refine fn_ok F sc_way_between (fun as d ⟨g, _, _, _, _, e, _⟩ => by rw [e]; rfl) fun cdv A outer s H E hr => ?_
  have hu := hu_of hr
  refine ⟨_, (pss_cons (ps_par (i := 4) (j := 5) rfl nd rfl rfl (by decide) rfl rfl (pa_cons (pe_disp (pps_cons (pv 2) (pe_lst (pa_cons (pv 2) pa_nil)) pps_nil) (by rfl) (by rfl) (fun z => by cases z) (by decide)) (pa_cons (pe_lst (pa_cons (pv 2) pa_nil)) pa_nil)) rfl)
    (pss_cons (ps_while PassesOwn.never (pt_cmpR (w_neD K hr) (pv 5) (pe_lst pa_nil) (nomark _)) (pss_cons (ps_set (i := 6) nd rfl (Or.inl rfl) (pe_bm PySem.F.plainAttrs_list PySem.F.slot_list_pop PySem.F.type_list_pop mt_popAt (pv 5) (pa_cons pe_int pa_nil)))
    (pss_one (ps_for PassesOwn.never rfl (w_piL K (pe_h Gleft_near hr (pa_cons (pv 0) (pa_cons (pv 6) (pa_cons (pe_lst (w_star K (pv 1) (pa_cons (pv 3) pa_nil))) pa_nil))))) (pg_name (i := 7) nd rfl (Or.inl rfl))
    (pss_one (ps_if (pt_cmp (pc_dnotin hu (pv 7) (pv 4)) rfl) (pss_cons (ps_dput hu (pv 4) (pv 7) (pe_lst (w_star K (pe_dget hu (pv 4) (pv 6) (fun _ _ => rfl)) (pa_cons (pv 7) pa_nil))) rfl)
    (pss_one (ps_expr (pe_bm PySem.F.plainAttrs_list PySem.F.slot_list_append PySem.F.type_list_append mt_append (pv 5) (pa_cons (pv 7) pa_nil))))) pss_nil))))))
    (pss_one (ps_ret (pe_dget2 hu (pv 4) (pv 3) pe_non ⟨rfl, rfl, rfl, rfl⟩))))), ?_⟩
  rintro as d ⟨g, b, e, left, hg, rfl, hb, hz, rfl⟩
  obtain ⟨kk, hkk, hne, hend, hw⟩ := CT.bfs_kk (n := g.n) hb left e
  rw [hw]
  have inv : ∀ i, i ≤ kk → ∃ D W, CT.Bo g.ps g.n b (left ++ [e]) i (CT.bfsIt g.ps g.n left b e i) D W := fun i hi => CT.bfs_inv rfl i fun j hj => hne j (Nat.lt_of_lt_of_le hj hi)
  refine SvD.e <| sv_seq (sv_par_nn (ev_disp1 (ev_var rfl) (ev_lst (av_cons (ev_var rfl) av_nil))) (en_lst (av_cons (ev_var rfl) av_nil))) (sv_seq
    (sv_while (fun i => ([some (chartD C g), some (.lst (sS left)), some (.str b), some (.str e), none, none, none, none], [(5, .lst (sS (CT.bfsIt g.ps g.n left b e i).2)), (4, waysD (CT.bfsIt g.ps g.n left b e i).1)])) kk rfl
      (fun i hi => ?_) (.inl ⟨?_, rfl⟩)) (sv_ret ?_))
  · obtain ⟨D, W, ho⟩ := inv i (Nat.le_of_lt hi)
    have h0 := hne i hi
    have wsub : ∀ x ∈ CT.wk (D ++ W), x ∈ g.ps := ho.bi.elim fun c hc => hc.2.sub hb
    cases W with
    | nil => rw [ho.e] at h0; exact absurd rfl h0
    | cons q W =>
      obtain ⟨x, wy⟩ := q
      obtain ⟨c, hcl, hc⟩ := ho.bi
      have hxp : x ∈ g.ps := wsub x (by rw [CT.wk_app]; exact List.mem_append_right _ List.mem_cons_self)
      have e2 : (CT.bfsIt g.ps g.n left b e i).2 = x :: CT.wk W := by rw [ho.e]; rfl
      have e1 : (CT.bfsIt g.ps g.n left b e i).1 = D ++ (x, wy) :: W := by rw [ho.e]
      have eN : CT.bfsIt g.ps g.n left b e (i + 1) = (CT.leftNear g.ps g.n x (left ++ [e])).foldl (CT.visit x) (D ++ [(x, wy)] ++ W, CT.wk W) := by
        show CT.bfsStep g.ps g.n left e (CT.bfsIt g.ps g.n left b e i) = _
        rw [ho.e]
        show (CT.leftNear g.ps g.n x (left ++ [e])).foldl (CT.visit x) (D ++ (x, wy) :: W, CT.wk W) = _
        simp
      have inn := fun j => CT.Bi.inner (List.mem_append_right D (List.mem_singleton.mpr rfl)) ((CT.leftNear g.ps g.n x (left ++ [e])).take j) W hc.move fun z hz => List.mem_of_mem_take hz
      refine ⟨tv_test (EvD.is (ev_op (ev_var rfl) (ev_lst av_nil) (rd_notNil (eqk_posts hg (xs := (CT.bfsIt g.ps g.n left b e i).2) fun y hy => wsub y (by rw [CT.wk_app]; rw [ho.e] at hy; exact List.mem_append_right _ hy)))) (by rw [e2]; rfl)), ?_⟩
      refine sv_toN [6, 7] (sv_seq (sv_pop0 (i := 5) (d := .str x) (ds := sS (CT.wk W)) (by rw [e2]; rfl)) (sv_for (vs := [7]) (xs := CT.leftNear g.ps g.n x (left ++ [e])) (enc := .str)
        (wv_list (EvN.ev (en_call0 (av_cons (ev_var rfl) (av_cons (ev_var rfl) (av_cons (ev_lst (av_star (ev_var rfl) (av_cons (ev_var rfl) av_nil)) ?_) av_nil))) ⟨g, x, left ++ [e], hg, Or.inl (by rw [sS_snoc]), hxp, rfl⟩)))
        (fun j => ([some (chartD C g), some (.lst (sS left)), some (.str b), some (.str e), none, none, some (.str x), none], [(5, .lst (sS (((CT.leftNear g.ps g.n x (left ++ [e])).take j).foldl (CT.visit x) (D ++ [(x, wy)] ++ W, CT.wk W)).2)), (4, waysD (((CT.leftNear g.ps g.n x (left ++ [e])).take j).foldl (CT.visit x) (D ++ [(x, wy)] ++ W, CT.wk W)).1)]))
        (CT.leftNear g.ps g.n x (left ++ [e])).length ?_ (Nat.le_refl _) (fun j y hj hy => ?_) (.inl ⟨rfl, rfl⟩))) rfl ?_
      · rw [List.length_append, List.length_map]; exact Nat.ble_eq.mpr (by simp only [List.length_cons, List.length_nil]; omega)
      · show (_, _) = (_, _)
        rw [e1]
        simp only [List.take_zero, List.foldl_nil, List.append_assoc, List.singleton_append]
        rfl
      · obtain ⟨W', h1, h2, h3, h4⟩ := inn j
        have hl := h2.len hb
        have hs := hg.sz
        refine ⟨_, [some (chartD C g), some (.lst (sS left)), some (.str b), some (.str e), none, none, some (.str x), some (.str y)], gv_name (by decide), fun l hl => by rw [List.mem_singleton.mp hl]; rfl, ?_, rfl⟩
        · rw [foldl_take hy, h1]
          by_cases hk : y ∈ CT.wk (D ++ [(x, wy)] ++ W')
          · have ev : CT.visit x (D ++ [(x, wy)] ++ W', CT.wk W') y = (D ++ [(x, wy)] ++ W', CT.wk W') := if_pos (CT.look_iff.mpr hk)
            rw [ev]
            refine .inl (sv_if (k := false) (TvD.is (tv_B (ev_dnin (ev_var rfl) (ev_var rfl))) ?_) (fun h => by cases h) fun _ => sv_next)
            rw [ways_look, Option.isSome_map, CT.look_iff.mpr hk]; rfl
          · have lx : (D ++ [(x, wy)] ++ W').lookup x = some wy := CT.look_some h2.nd (List.mem_append_left _ (List.mem_append_right _ (List.mem_singleton.mpr rfl)))
            have ev : CT.visit x (D ++ [(x, wy)] ++ W', CT.wk W') y = (D ++ [(x, wy)] ++ W' ++ [(y, wy ++ [y])], CT.wk W' ++ [y]) := by
              show (if ((D ++ [(x, wy)] ++ W').lookup y).isSome then _ else _) = _
              rw [if_neg (fun q => hk (CT.look_iff.mp q)), lx]
              rfl
            have hin := fun z => CT.look_iff (w := D ++ [(x, wy)] ++ W') (x := z)
            have lk : ((D ++ [(x, wy)] ++ W').lookup y).isSome = false := by
              cases q : ((D ++ [(x, wy)] ++ W').lookup y).isSome with
              | false => rfl
              | true => exact absurd ((hin y).mp q) hk
            have wyl : wy.length ≤ 90000 := by
              have : wy.length ≤ c + 1 := hc.cap (x, wy) (List.mem_append_right _ List.mem_cons_self)
              omega
            rw [ev]
            refine .inl (sv_if (k := true) (TvD.is (tv_B (ev_dnin (ev_var rfl) (ev_var rfl))) (by rw [ways_look, Option.isSome_map, lk]; rfl)) (fun _ => sv_toN [] (sv_seq
              (sv_dput (i := 4) rfl (en_lst (av_star (ev_dget (ev_var rfl) (ev_var rfl) (by rw [ways_look, lx]; rfl)) (av_cons (ev_var rfl) av_nil)) ?_) ?_ (ev_var rfl) ?_)
              (sv_app (i := 5) rfl (ev_var rfl) ?_)) rfl ?_) fun h => by cases h)
            · rw [List.length_append, List.length_map]; exact Nat.ble_eq.mpr (by simp only [List.length_cons, List.length_nil]; omega)
            · rw [← sS_snoc]; exact flat_strs _
            · rw [List.length_map, List.length_append, List.length_append]; rw [List.length_append] at hl; omega
            · rw [List.length_map]; unfold CT.wk; rw [List.length_map]; omega
            · show [(5, CW.D.lst _), (4, CW.D.dic _)] = [(5, _), (4, _)]
              rw [putD_new, ← sS_snoc, ← sS_snoc]
              · unfold waysD; simp only [List.map_append, List.map_cons, List.map_nil]
              · rw [List.map_map]; exact hk
      · rw [eN, List.take_of_length_le (Nat.le_refl _)]
  · refine tv_test (EvD.is (ev_op (ev_var rfl) (ev_lst av_nil) (rd_notNil (xs := (CT.bfsIt g.ps g.n left b e kk).2) (eqk_posts hg fun y hy => by rw [hend] at hy; cases hy))) (by rw [hend]; rfl))
  · refine EvD.is (ev_dget2 (ev_var rfl) (ev_var rfl) ev_non) ?_
    rw [ways_look]
    cases (CT.bfsIt g.ps g.n left b e kk).1.lookup e <;> rfl
theorem sc_ring_at : FnScope ["chart", "left", "post", "near", "place", "one", "other", "free", "way", "some"] ["chart", "left", "post"] (defScope (topS 17)) := ⟨rfl, rfl, rfl, by decide +kernel, rfl, by decide +kernel, by decide +kernel⟩
theorem optL_isN (o : Option (List Str)) : (optL o).isN = o.isNone := by cases o <;> rfl
theorem optX_isN (o : Option (List Str)) : (optX o).isN = o.isNone := by cases o <;> rfl
theorem optT_isN (o : Option (List Str)) : (optT o).isN = o.isNone := by cases o <;> rfl
/-- where findSome? ends -/
theorem find_kk {β γ : Type} (q : β → Option γ) : ∀ xs : List β, (xs.findSome? q = none ∧ ∀ x ∈ xs, q x = none) ∨ ∃ (kk : Nat) (x : β) (c : γ), xs[kk]? = some x ∧ q x = some c ∧ xs.findSome? q = some c ∧ ∀ i y, i < kk → xs[i]? = some y → q y = none
  | [] => .inl ⟨rfl, fun x hx => nomatch hx⟩
  | x :: xs => by
    cases e : q x with
    | some c => exact .inr ⟨0, x, c, rfl, e, by rw [List.findSome?_cons, e], fun i y hi => absurd hi (Nat.not_lt_zero i)⟩
    | none =>
      rcases find_kk q xs with ⟨h1, h2⟩ | ⟨kk, y, c, h1, h2, h3, h4⟩
      · refine .inl ⟨by rw [List.findSome?_cons, e]; exact h1, fun y hy => ?_⟩
        rcases List.mem_cons.mp hy with rfl | hy
        · exact e
        · exact h2 y hy
      · refine .inr ⟨kk + 1, y, c, h1, h2, by rw [List.findSome?_cons, e]; exact h3, fun i z hi hz => ?_⟩
        cases i with
        | zero => cases hz; exact e
        | succ i => exact h4 i z (Nat.lt_of_succ_lt_succ hi) hz
def optD {γ : Type} (ec : γ → D) (d0 : D) : Option γ → D
  | none => d0
  | some c => ec c
theorem sv_find {Γ : Gam} {ρ : Rho} {μ : Mus} {t : TS} {wi : TI} {g : TG} {vs : List Nat} {β γ : Type} {xs : List β} {enc : β → D} {q : β → Option γ} {ec : γ → D} (hw : WvD Γ wi ρ (xs.map enc)) (hv : ∀ j ∈ vs, isIn μ j = false)
    (hs : ∀ (i : Nat) (x : β), xs[i]? = some x → ∃ ρ', GvD Γ g vs (wipeD ρ vs) (enc x) ρ' ∧ ((q x = none ∧ ∃ ρ'', SvD Γ t ρ' μ (.nx ρ'' μ) ∧ wipeD ρ'' vs = wipeD ρ vs) ∨ ∃ c, q x = some c ∧ SvD Γ t ρ' μ (.rt (ec c)))) :
    (xs.findSome? q = none ∧ SvD Γ (tFor wi g t) ρ μ (.nx (wipeD ρ vs) μ)) ∨ ∃ c, xs.findSome? q = some c ∧ SvD Γ (tFor wi g t) ρ μ (.rt (ec c)) := by
  have no : ∀ i x, xs[i]? = some x → q x = none → ∃ ρ' ρ'', GvD Γ g vs (wipeD ρ vs) (enc x) ρ' ∧ (SvD Γ t ρ' μ (.nx ρ'' μ) ∨ SvD Γ t ρ' μ (.ct ρ'' μ)) ∧ wipeD ρ'' vs = wipeD ρ vs := fun i x hx hq => by
    obtain ⟨ρ', hg, ⟨_, ρ'', h1, h2⟩ | ⟨c, h1, _⟩⟩ := hs i x hx
    · exact ⟨ρ', ρ'', hg, .inl h1, h2⟩
    · rw [hq] at h1; cases h1
  rcases find_kk q xs with ⟨h1, h2⟩ | ⟨kk, x, c, h1, h2, h3, h4⟩
  · exact .inl ⟨h1, sv_forA hw hv fun i x hx => no i x hx (h2 x (List.mem_of_getElem? hx))⟩
  · refine .inr ⟨c, h3, sv_forR hw hv kk h1 (fun i y hi hy => no i y hy (h4 i y hi hy)) ?_⟩
    obtain ⟨ρ', hg, ⟨z, _⟩ | ⟨c', z, hb⟩⟩ := hs kk x h1
    · rw [h2] at z; cases z
    · rw [h2] at z; cases z
      exact ⟨ρ', hg, hb⟩
theorem sv_findI {Γ : Gam} {ρ ρ0 : Rho} {μ : Mus} {t : TS} {wi : TI} {g : TG} {vs vs0 : List Nat} {β γ : Type} {xs : List β} {enc : β → D} {q : β → Option γ} {ec : γ → D} (hw : WvD Γ wi ρ (xs.map enc)) (hv : ∀ j ∈ vs, isIn μ j = false)
    (hs : ∀ (i : Nat) (x : β), xs[i]? = some x → ∃ ρ', GvD Γ g vs (wipeD ρ vs) (enc x) ρ' ∧ ((q x = none ∧ ∃ ρ'', SvD Γ t ρ' μ (.nx ρ'' μ) ∧ wipeD ρ'' vs = wipeD ρ vs) ∨ ∃ c, q x = some c ∧ SvD Γ t ρ' μ (.rt (ec c)))) (he : wipeD (wipeD ρ vs) vs0 = ρ0) :
    (xs.findSome? q = none ∧ ∃ ρ'', SvD Γ (tFor wi g t) ρ μ (.nx ρ'' μ) ∧ wipeD ρ'' vs0 = ρ0) ∨ ∃ c, xs.findSome? q = some c ∧ SvD Γ (tFor wi g t) ρ μ (.rt (ec c)) := by
  rcases sv_find hw hv hs with ⟨h1, h2⟩ | h
  · exact .inl ⟨h1, _, h2, he⟩
  · exact .inr h
theorem sv_findS {Γ : Gam} {ρ : Rho} {μ : Mus} {t u : TS} {wi : TI} {g : TG} {vs : List Nat} {β γ : Type} {xs : List β} {enc : β → D} {q : β → Option γ} {ec : γ → D} {d0 : D} (hw : WvD Γ wi ρ (xs.map enc)) (hv : ∀ j ∈ vs, isIn μ j = false)
    (hs : ∀ (i : Nat) (x : β), xs[i]? = some x → ∃ ρ', GvD Γ g vs (wipeD ρ vs) (enc x) ρ' ∧ ((q x = none ∧ ∃ ρ'', SvD Γ t ρ' μ (.nx ρ'' μ) ∧ wipeD ρ'' vs = wipeD ρ vs) ∨ ∃ c, q x = some c ∧ SvD Γ t ρ' μ (.rt (ec c)))) (hu : SvD Γ u (wipeD ρ vs) μ (.rt d0)) :
    SvD Γ (tSeq (tFor wi g t) u) ρ μ (.rt (optD ec d0 (xs.findSome? q))) := by
  rcases sv_find hw hv hs with ⟨h1, h2⟩ | ⟨c, h1, h2⟩
  · rw [h1]; exact sv_seq h2 hu
  · rw [h1]; exact sv_seq_rt h2
theorem ok_ring_at (T : Kx K mg C) (F : FnP K "ring_at" "ring_at" (topS 17) f fd) (Gleft_near : Has P w K mg base "left_near" ["chart", "post", "left"] 6 (spN G0 (rLeftNear C))) (Gway_between : Has P w K mg base "way_between" ["chart", "left", "begin", "end"] 7 (spF G0 (rWay C)))
    (Mis_near : HasM P w K mg base C "is_near" ["self", "x", "y"] 4 (spF G0 (rIsNear C))) : FnOk P w K mg base CX0 8 f fd ["chart", "left", "post"] (spF G0 (rRingAt C)) := by
  have nd := (sc_ring_at).nd
  have B := T.b
  have cl := T.cl
  refine fn_ok F sc_ring_at (fun as d ⟨g, _, _, _, e, _⟩ => by rw [e]; rfl) fun cdv A outer s H E hr => ?_
  refine ⟨_, (pss_cons (ps_set (i := 3) nd rfl (Or.inl rfl) (pe_h Gleft_near hr (pa_cons (pv 0) (pa_cons (pv 2) (pa_cons (pv 1) pa_nil)))))
    (pss_cons (ps_for PassesOwn.never rfl (pi_enum (by rfl) B.enumerate (pa_cons (pv 3) pa_nil)) (pg_tup (by rfl) (pgs_cons (pg_name (i := 4) nd rfl (Or.inl rfl)) (pgs_cons (pg_name (i := 5) nd rfl (Or.inl rfl)) pgs_nil)))
    (pss_one (ps_for PassesOwn.never rfl (w_piL K (pe_slice (w_slL K) (pv 3) (po_some (pe_op op_add (pv 4) pe_int)) po_none)) (pg_name (i := 6) nd rfl (Or.inl rfl))
    (pss_one (ps_if (pt_not (pt_val (pe_hm Mis_near cl hr (pv 0) (pa_cons (pv 5) (pa_cons (pv 6) pa_nil))))) (pss_cons (ps_setLc (i := 7) (own := [("some", 9)]) rfl nd rfl rfl (sw_true rfl rfl rfl (by decide +kernel)) (w_piL K (pv 1)) (blkOk_by (by kernel_rfl)) (fun _ _ _ _ _ => (pg_name (i := 9) nd rfl (Or.inl rfl))) (fun _ _ _ _ _ => pts_one (PW.pt (pw_and (pt_cmpR op_ne (pv 9) (pv 2) (nomark _)) (pw_and1 (pt_not (pt_val (pe_hm Mis_near cl hr (pv 0) (pa_cons (pv 9) (pa_cons (pv 2) pa_nil))))))))) (fun _ _ _ _ _ => (pv 9)))
    (pss_cons (ps_set (i := 8) nd rfl (Or.inl rfl) (pe_h Gway_between hr (pa_cons (pv 0) (pa_cons (pe_lst (pa_cons (pv 5) (w_star K (pv 7) pa_nil))) (pa_cons (pv 5) (pa_cons (pv 6) pa_nil))))))
    (pss_one (ps_if (pt_cmpR op_notN (pv 8) pe_non (nomark _)) (pss_one (ps_ret (pe_tupF (pa_cons (pv 2) (w_star K (pv 8) pa_nil))))) pss_nil)))) pss_nil)))))
    (pss_one (ps_ret pe_non)))), ?_⟩
  rintro as d ⟨g, post, left, hg, rfl, hp, hl, hz, rfl⟩
  have hnl := left_len hg (x := post) (left := left)
  have hns := left_sub (g := g) (x := post) (left := left)
  refine SvD.e <| sv_seq (sv_asgF (en_call0 (av_cons (ev_var rfl) (av_cons (ev_var rfl) (av_cons (ev_var rfl) av_nil))) ⟨g, _, _, hg, Or.inl rfl, hp, rfl⟩) (flat_strs _)) ?_
  have eo : ∀ o : Option (List Str), optX o = optD (fun xs => D.tupX xs) .non o := fun o => by cases o <;> rfl
  rw [eo]
  refine sv_findS (vs := [4, 5, 6, 7, 8]) (wv_enumL (av_cons (ev_var rfl) av_nil)) (by intro j _; rfl) ?_ (sv_ret ev_non)
  rintro i ⟨one, pl⟩ hi
  have h1 : one ∈ CT.leftNear g.ps g.n post left := (List.mem_zipIdx' (List.mem_of_getElem? hi)).2 ▸ List.getElem_mem _
  have o1 := hns one h1
  refine ⟨[some (chartD C g), some (.lst (sS left)), some (.str post), some (.lst (sS (CT.leftNear g.ps g.n post left))), some (.int (pl : Nat)), some (.str one), none, none, none, none], gv_tup (gs_cons (gv_name (by decide)) (gs_cons (gv_name (by decide)) gs_nil)), ?_⟩
  refine sv_findI (vs := [6, 7, 8]) (xs := (CT.leftNear g.ps g.n post left).drop (pl + 1)) (enc := .str) (wv_list (EvD.is (EvN.ev (ev_fromL (n := pl + 1) (ev_var rfl) (pv_some (ev_op (ev_var rfl) ev_int rd_add)) (by simp))) (by rw [List.map_drop]))) (by intro j _; rfl) ?_ rfl
  intro k other hk
  have o2 := hns other (List.mem_of_mem_drop (List.mem_of_getElem? hk))
  refine ⟨[some (chartD C g), some (.lst (sS left)), some (.str post), some (.lst (sS (CT.leftNear g.ps g.n post left))), some (.int (pl : Nat)), some (.str one), some (.str other), none, none, none], gv_name (by decide), ?_⟩
  cases hn : g.n one other with
  | true =>
    refine .inl ⟨if_pos hn, _, sv_if (k := false) (TvD.is (tv_not (tv_B (ev_meth0 (ev_var rfl) rfl (av_cons (ev_var rfl) (av_cons (ev_var rfl) av_nil)) ⟨g, one, other, hg, rfl, o1, o2, rfl⟩))) (by rw [hn]; rfl)) (fun h => by cases h) (fun _ => sv_next), rfl⟩
  | false =>
    have e0 : CT.ringPair g.ps g.n left post one other = (CT.wayBetween g.ps g.n (one :: CT.freeOf g.n left post) one other).map fun way => post :: way := if_neg (by rw [hn]; exact Bool.false_ne_true)
    have fl : (CT.freeOf g.n left post).length ≤ 100 := Nat.le_trans (List.length_filter_le _ _) hz
    cases hway : CT.wayBetween g.ps g.n (one :: CT.freeOf g.n left post) one other with
    | none =>
      refine .inl ⟨by rw [e0, hway]; rfl, _, sv_if (k := true) (TvD.is (tv_not (tv_B (ev_meth0 (ev_var rfl) rfl (av_cons (ev_var rfl) (av_cons (ev_var rfl) av_nil)) ⟨g, one, other, hg, rfl, o1, o2, rfl⟩))) (by rw [hn]; rfl)) (fun _ => sv_seq
        (sv_asg (EvN.ev (ev_lcF (xs := left) (wv_list (ev_var rfl)) (fun y hy => ⟨_, gv_name (by decide), tv_and (tv_test (ev_op (ev_var rfl) (ev_var rfl) rd_neS)) (fun _ => tv_not (tv_B (ev_meth0 (ev_var rfl) rfl (av_cons (ev_var rfl) (av_cons (ev_var rfl) av_nil)) ⟨g, y, post, hg, rfl, hl y hy, hp, rfl⟩))), fun _ => ev_var rfl⟩) (by omega))))
        (sv_seq (sv_asg (ev_call0 (av_cons (ev_var rfl) (av_cons (ev_lst (av_cons (ev_var rfl) (av_star (ev_var rfl) av_nil)) ?_) (av_cons (ev_var rfl) (av_cons (ev_var rfl) av_nil)))) ⟨g, one, other, one :: CT.freeOf g.n left post, hg, by rw [List.append_nil]; rfl, o1, Nat.le_trans (Nat.succ_le_succ fl) (by decide), rfl⟩))
          (sv_if (k := false) (tv_test (EvD.is (ev_op (ev_var rfl) ev_non rd_notN) (by rw [optL_isN, hway]; rfl))) (fun h => by cases h) fun _ => sv_next))) (fun h => by cases h), rfl⟩
      refine Nat.ble_eq.mpr ?_
      have : (sS (CT.freeOf g.n left post)).length ≤ 100 := by rw [List.length_map]; exact fl
      have e : (sS (CT.freeOf g.n left post) ++ []).length = (sS (CT.freeOf g.n left post)).length := by rw [List.append_nil]
      exact Nat.succ_le_of_lt (Nat.lt_of_le_of_lt (Nat.le_trans (Nat.le_of_eq e) this) (by decide))
    | some way =>
      have wok := CT.way_ok hg.sy o1 hway
      have wl : way.length ≤ 16 := Nat.le_trans (CT.len_le_of_sub wok.nd fun x hx => (wok.on x hx).elim (fun e => by rw [e]; exact o1) fun e => e.1) hg.sz
      refine .inr ⟨post :: way, by rw [e0, hway]; rfl, sv_if (k := true) (TvD.is (tv_not (tv_B (ev_meth0 (ev_var rfl) rfl (av_cons (ev_var rfl) (av_cons (ev_var rfl) av_nil)) ⟨g, one, other, hg, rfl, o1, o2, rfl⟩))) (by rw [hn]; rfl)) (fun _ => sv_seq
        (sv_asg (EvN.ev (ev_lcF (xs := left) (wv_list (ev_var rfl)) (fun y hy => ⟨_, gv_name (by decide), tv_and (tv_test (ev_op (ev_var rfl) (ev_var rfl) rd_neS)) (fun _ => tv_not (tv_B (ev_meth0 (ev_var rfl) rfl (av_cons (ev_var rfl) (av_cons (ev_var rfl) av_nil)) ⟨g, y, post, hg, rfl, hl y hy, hp, rfl⟩))), fun _ => ev_var rfl⟩) (by omega))))
        (sv_seq (sv_asg (ev_call0 (av_cons (ev_var rfl) (av_cons (ev_lst (av_cons (ev_var rfl) (av_star (ev_var rfl) av_nil)) ?_) (av_cons (ev_var rfl) (av_cons (ev_var rfl) av_nil)))) ⟨g, one, other, one :: CT.freeOf g.n left post, hg, by rw [List.append_nil]; rfl, o1, Nat.le_trans (Nat.succ_le_succ fl) (by decide), rfl⟩))
          (sv_if (k := true) (tv_test (EvD.is (ev_op (ev_var rfl) ev_non rd_notN) (by rw [optL_isN, hway]; rfl))) (fun _ => sv_ret (ev_tupF (xs := post :: way) (av_is (av_cons (ev_var rfl) (av_star (ds := sS way) (EvD.is (ev_var rfl) (by rw [hway]; rfl)) av_nil)) (by rw [List.append_nil]; rfl)) (by show way.length + 1 ≤ 90000; omega))) (fun h => by cases h)))) (fun h => by cases h)⟩
      · refine Nat.ble_eq.mpr ?_
        have : (sS (CT.freeOf g.n left post)).length ≤ 100 := by rw [List.length_map]; exact fl
        have e : (sS (CT.freeOf g.n left post) ++ []).length = (sS (CT.freeOf g.n left post)).length := by rw [List.append_nil]
        exact Nat.succ_le_of_lt (Nat.lt_of_le_of_lt (Nat.le_trans (Nat.le_of_eq e) this) (by decide))
theorem sc_long_ring_of : FnScope ["chart", "left", "post", "ring"] ["chart"] (defScope (topS 18)) := ⟨rfl, rfl, rfl, by decide +kernel, rfl, by decide +kernel, by decide +kernel⟩
theorem ok_long_ring_of (T : Kx K mg C) (F : FnP K "long_ring_of" "long_ring_of" (topS 18) f fd) (Gpeeled : Has P w K mg base "peeled" ["chart"] 8 (spF G0 (rPeeled C))) (Gring_at : Has P w K mg base "ring_at" ["chart", "left", "post"] 8 (spF G0 (rRingAt C))) : FnOk P w K mg base CX0 9 f fd ["chart"] (spF G0 (rLongRing C)) := by
  have nd := (sc_long_ring_of).nd
  have B := T.b
  refine fn_ok F sc_long_ring_of (fun as d ⟨g, _, e, _⟩ => by rw [e]; rfl) fun cdv A outer s H E hr => ?_
  refine ⟨_, (pss_cons (ps_set (i := 1) nd rfl (Or.inl rfl) (pe_ix (w_ixT K) (pe_h Gpeeled hr (pa_cons (pv 0) pa_nil)) pe_int (fun _ _ => rfl)))
    (pss_cons (ps_for PassesOwn.never rfl (w_piL K (pv 1)) (pg_name (i := 2) nd rfl (Or.inl rfl))
    (pss_cons (ps_set (i := 3) nd rfl (Or.inl rfl) (pe_h Gring_at hr (pa_cons (pv 0) (pa_cons (pv 1) (pa_cons (pv 2) pa_nil)))))
    (pss_one (ps_if (pt_cmpR op_notN (pv 3) pe_non (nomark _)) (pss_one (ps_ret (pv 3))) pss_nil))))
    (pss_one (ps_ret pe_non)))), ?_⟩
  rintro as d ⟨g, hg, rfl, rfl⟩
  obtain ⟨kk, _, _, _, hpe⟩ := CT.peel_kk (ps := g.ps) (n := g.n)
  have lsub : ∀ x ∈ (CT.peeled g.ps g.n).2, x ∈ g.ps := fun x hx => (CT.peelIt_inv hg.nd _).2.subset hx
  have llen : (CT.peeled g.ps g.n).2.length ≤ 100 := Nat.le_trans (CT.peelIt_inv hg.nd _).2.length_le (Nat.le_trans hg.sz (by decide))
  unfold CT.longRing
  refine SvD.e <| sv_seq (sv_asg (ev_op (ev_call0 (av_cons (ev_var rfl) av_nil) ⟨g, hg, rfl, rfl⟩) ev_int (rd_ixT (n := 1) rfl rfl))) ?_
  rcases find_kk (CT.ringAt g.ps g.n (CT.peeled g.ps g.n).2) (CT.peeled g.ps g.n).2 with ⟨h1, h2⟩ | ⟨kk, x, c, h1, h2, h3, h4⟩
  · rw [h1]
    refine sv_seq (sv_forA (vs := [2, 3]) (xs := (CT.peeled g.ps g.n).2) (enc := .str) (wv_list (ev_var rfl)) (fun j _ => rfl) fun i y hy => ?_) (sv_ret ev_non)
    have hm := List.mem_of_getElem? hy
    exact ⟨_, _, gv_name (by decide), .inl (sv_seq (sv_asg (ev_call0 (av_cons (ev_var rfl) (av_cons (ev_var rfl) (av_cons (ev_var rfl) av_nil))) ⟨g, y, _, hg, rfl, lsub y hm, lsub, llen, rfl⟩))
      (sv_if (k := false) (tv_test (EvD.is (ev_op (ev_var rfl) ev_non rd_notN) (by rw [optX_isN, h2 y hm]; rfl))) (fun h => by cases h) fun _ => sv_next)), rfl⟩
  · rw [h3]
    refine sv_seq_rt (sv_forR (vs := [2, 3]) (xs := (CT.peeled g.ps g.n).2) (enc := .str) (wv_list (ev_var rfl)) (fun j _ => rfl) kk h1 (fun i y hi hy => ?_) ?_)
    · have hm := List.mem_of_getElem? hy
      exact ⟨_, _, gv_name (by decide), .inl (sv_seq (sv_asg (ev_call0 (av_cons (ev_var rfl) (av_cons (ev_var rfl) (av_cons (ev_var rfl) av_nil))) ⟨g, y, _, hg, rfl, lsub y hm, lsub, llen, rfl⟩))
        (sv_if (k := false) (tv_test (EvD.is (ev_op (ev_var rfl) ev_non rd_notN) (by rw [optX_isN, h4 i y hi hy]; rfl))) (fun h => by cases h) fun _ => sv_next)), rfl⟩
    · have hm := List.mem_of_getElem? h1
      exact ⟨_, gv_name (by decide), sv_seq (sv_asg (ev_call0 (av_cons (ev_var rfl) (av_cons (ev_var rfl) (av_cons (ev_var rfl) av_nil))) ⟨g, x, _, hg, rfl, lsub x hm, lsub, llen, rfl⟩))
        (sv_if (k := true) (tv_test (EvD.is (ev_op (ev_var rfl) ev_non rd_notN) (by rw [optX_isN, h2]; rfl))) (fun _ => sv_ret (EvD.is (ev_var rfl) (by rw [h2]))) fun h => by cases h)⟩
end
end CW
/-! P4 -/
/-! P4: crowds, the simple defs. -/
namespace CW
open PySem PySem.Spec PyProof.Rows L2
def rOrdered (C : Addr) (as : List D) (d : D) : Prop := ∃ (g : Gr) (xs : List Str), g.Ok ∧ as = [chartD C g, .tup (sS xs)] ∧ d = .tup (sS (CT.ord g.ps xs))
def rIsCrowd (C : Addr) (as : List D) (d : D) : Prop := ∃ (g : Gr) (xs : List Str), g.Ok ∧ as = [chartD C g, .tup (sS xs)] ∧ xs = CT.ord g.ps xs ∧ d = .bl (CT.isCrowd g.ps g.n xs)
def rNeedGood (C : Addr) (as : List D) (d : D) : Prop := ∃ g : Gr, g.Ok ∧ as = [chartD C g] ∧ CT.peelingOf g.ps g.n ≠ none ∧ d = .non
theorem any_map_not {α : Type} (p : α → Bool) (xs : List α) : (xs.map p).any id = xs.any p := by
  rw [List.any_map]; rfl
section
variable {P : Program} {w : World} {K : PySem.W.Frag} {mg : Str → Option Value} {base : Heap} {C : Addr} {f : Addr} {fd : FuncData}
theorem sc_ordered : FnScope ["chart", "posts", "post"] ["chart", "posts"] (defScope (topS 32)) := ⟨rfl, rfl, rfl, by decide +kernel, rfl, by decide +kernel, by decide +kernel⟩
theorem ok_ordered (T : Kx K mg C) (F : FnP K "ordered" "ordered" (topS 32) f fd) (Mposts : HasM P w K mg base C "posts" ["self"] 1 (spN G0 (rPosts C))) : FnOk P w K mg base CX0 2 f fd ["chart", "posts"] (spF G0 (rOrdered C)) := by
  have nd := (sc_ordered).nd
  have B := T.b
  have cl := T.cl
  refine fn_ok F sc_ordered (fun as d ⟨g, xs, _, e, _⟩ => by rw [e]; rfl) fun cdv A outer s H E hr => ?_
  refine ⟨_, (pss_one (ps_ret (w_tuple K B (pa_cons (pe_lc (own := [("post", 2)]) rfl nd (w_piL K (pe_hm0 Mposts cl hr (pv 0))) (blkOk_by (by kernel_rfl)) (fun _ _ _ _ _ => (pg_name (i := 2) nd rfl (Or.inl rfl))) (fun _ _ _ _ _ => pts_one (pt_cmpR (w_in K) (pv 2) (pv 1) rfl)) (fun _ _ _ _ _ => (pv 2))) pa_nil)))), ?_⟩
  rintro as d ⟨g, xs, hg, rfl, rfl⟩
  have := hg.sz
  exact SvD.e <| sv_ret (ev_cb (av_cons (EvN.ev (ev_lcF (xs := g.ps) (wv_list (EvN.ev (en_meth0 (ev_var rfl) rfl av_nil ⟨g, hg, rfl, rfl⟩))) (fun y hy => ⟨_, gv_name (by decide), tv_test (ev_op (ev_var rfl) (ev_var rfl) rd_inT), fun _ => ev_var rfl⟩) (by omega))) av_nil) ra_tuple)
theorem ord_sub {g : Gr} {xs : List Str} : ∀ y ∈ CT.ord g.ps xs, y ∈ g.ps := fun y hy => (List.mem_filter.mp hy).1
theorem ord_nd {g : Gr} (hg : g.Ok) {xs : List Str} : (CT.ord g.ps xs).Nodup := hg.nd.sublist List.filter_sublist
theorem ord_len {g : Gr} (hg : g.Ok) {xs : List Str} : (CT.ord g.ps xs).length ≤ 16 := Nat.le_trans (List.length_filter_le _ _) hg.sz
theorem ord_ord {g : Gr} {xs : List Str} : CT.ord g.ps (CT.ord g.ps xs) = CT.ord g.ps xs := by
  unfold CT.ord
  refine List.filter_congr fun y hy => ?_
  simp only [List.mem_filter, hy, true_and, decide_eq_true_eq]
theorem sc_is_crowd : FnScope ["chart", "value", "others", "post", "one"] ["chart", "value"] (defScope (topS 33)) := ⟨rfl, rfl, rfl, by decide +kernel, rfl, by decide +kernel, by decide +kernel⟩
theorem ok_is_crowd (T : Kx K mg C) (F : FnP K "is_crowd" "is_crowd" (topS 33) f fd) (Gare_posts : Has P w K mg base "are_posts" ["chart", "value"] 2 (spF G0 (rArePosts C))) (Gordered : Has P w K mg base "ordered" ["chart", "posts"] 2 (spF G0 (rOrdered C)))
    (Gare_near : Has P w K mg base "are_near" ["chart", "posts"] 5 (spF G0 (rAreNear C))) (Mposts : HasM P w K mg base C "posts" ["self"] 1 (spN G0 (rPosts C))) (Mis_near : HasM P w K mg base C "is_near" ["self", "x", "y"] 4 (spF G0 (rIsNear C))) :
    FnOk P w K mg base CX0 6 f fd ["chart", "value"] (spF G0 (rIsCrowd C)) := by
  have nd := (sc_is_crowd).nd
  have B := T.b
  have cl := T.cl
  refine fn_ok F sc_is_crowd (fun as d ⟨g, xs, _, e, _⟩ => by rw [e]; rfl) fun cdv A outer s H E hr => ?_
  refine ⟨_, (pss_cons (ps_if (PW.pt (pw_or (pt_not (pt_val (pe_h Gare_posts hr (pa_cons (pv 0) (pa_cons (pv 1) pa_nil))))) (pw_or (pt_cmpR (w_eqD K hr) (pv 1) (pe_tup pa_nil) (nomark _)) (pw_or (pt_cmpR (w_neD K hr) (pv 1) (pe_h Gordered hr (pa_cons (pv 0) (pa_cons (pv 1) pa_nil))) (nomark _)) (pw_or1 (pt_not (pt_val (pe_h Gare_near hr (pa_cons (pv 0) (pa_cons (pv 1) pa_nil)))))))))) (pss_one (ps_ret pe_bl)) pss_nil)
    (pss_cons (ps_setLc (i := 2) (own := [("post", 3)]) rfl nd rfl rfl (sw_true rfl rfl rfl (by decide +kernel)) (w_piL K (pe_hm0 Mposts cl hr (pv 0))) (blkOk_by (by kernel_rfl)) (fun _ _ _ _ _ => (pg_name (i := 3) nd rfl (Or.inl rfl))) (fun _ _ _ _ _ => pts_one (pt_cmpR (w_nin K) (pv 3) (pv 1) rfl)) (fun _ _ _ _ _ => (pv 3)))
    (pss_one (ps_ret (pe_not (w_any K B (pa_cons (pe_lc (own := [("post", 3)]) rfl nd (w_piL K (pv 2)) (blkOk_by (by kernel_rfl)) (fun _ _ _ _ _ => (pg_name (i := 3) nd rfl (Or.inr rfl))) (fun _ _ _ _ _ => pts_nil) (fun _ _ _ _ _ => (w_all K B (pa_cons (pe_lc (own := [("one", 4)]) rfl nd (w_piT K (pv 1)) (blkOk_by (by kernel_rfl)) (fun _ _ _ _ _ => (pg_name (i := 4) nd rfl (Or.inl rfl))) (fun _ _ _ _ _ => pts_nil) (fun _ _ _ _ _ => (pe_hm Mis_near cl hr (pv 0) (pa_cons (pv 3) (pa_cons (pv 4) pa_nil))))) pa_nil)))) pa_nil))))))), ?_⟩
  rintro as d ⟨g, xs, hg, rfl, ho, rfl⟩
  have hx : ∀ x ∈ xs, x ∈ g.ps := by rw [ho]; exact ord_sub
  have hn : xs.Nodup := by rw [ho]; exact ord_nd hg
  have hz : xs.length ≤ 16 := by rw [ho]; exact ord_len hg
  have hs := hg.sz
  have e0 : decide (xs = CT.ord g.ps xs) = true := decide_eq_true ho
  cases hb : (!xs.isEmpty && CT.areNear g.n xs) with
  | false =>
    have e1 : CT.isCrowd g.ps g.n xs = false := by unfold CT.isCrowd; rw [hb]; rfl
    rw [e1]
    exact SvD.e <| sv_seq_rt (sv_if (k := true) (TvD.is (tv_or (tv_not (tv_B (ev_call0 (av_cons (ev_var rfl) (av_cons (ev_var rfl) av_nil)) ⟨g, xs, hg, rfl, hn, hx, rfl⟩))) fun _ => tv_or (tv_test (ev_op (ev_var rfl) (ev_tup av_nil) (rd_isNilT (eqk_postsT hg hx)))) fun _ =>
      tv_or (tv_test (ev_op (ev_var rfl) (ev_call0 (av_cons (ev_var rfl) (av_cons (ev_var rfl) av_nil)) ⟨g, xs, hg, rfl, rfl⟩) (rd_neE (enc := fun l : List Str => D.tup (l.map D.str)) (x := xs) (y := CT.ord g.ps xs) (eqOn_tup eqOn_str) (fun _ _ => trivial) (fun _ _ => trivial) (eqk_postsT hg hx) (eqk_postsT hg ord_sub)))) fun _ =>
      tv_not (tv_B (ev_call0 (av_cons (ev_var rfl) (av_cons (ev_var rfl) av_nil)) ⟨g, xs, hg, Or.inr rfl, hx, by omega, rfl⟩))) (by rw [e0]; cases h1 : xs.isEmpty <;> cases h2 : CT.areNear g.n xs <;> simp [h1, h2] at hb ⊢)) (fun _ => sv_ret ev_bl) fun h => by cases h)
  | true =>
    have e1 : CT.isCrowd g.ps g.n xs = !((g.ps.filter fun y => !decide (y ∈ xs)).map fun p => xs.all fun q => g.n p q).any id := by unfold CT.isCrowd; rw [hb, any_map_not]; rfl
    rw [e1]
    refine SvD.e <| sv_seq (sv_if (k := false) (TvD.is (tv_or (tv_not (tv_B (ev_call0 (av_cons (ev_var rfl) (av_cons (ev_var rfl) av_nil)) ⟨g, xs, hg, rfl, hn, hx, rfl⟩))) fun _ => tv_or (tv_test (ev_op (ev_var rfl) (ev_tup av_nil) (rd_isNilT (eqk_postsT hg hx)))) fun _ =>
      tv_or (tv_test (ev_op (ev_var rfl) (ev_call0 (av_cons (ev_var rfl) (av_cons (ev_var rfl) av_nil)) ⟨g, xs, hg, rfl, rfl⟩) (rd_neE (enc := fun l : List Str => D.tup (l.map D.str)) (x := xs) (y := CT.ord g.ps xs) (eqOn_tup eqOn_str) (fun _ _ => trivial) (fun _ _ => trivial) (eqk_postsT hg hx) (eqk_postsT hg ord_sub)))) fun _ =>
      tv_not (tv_B (ev_call0 (av_cons (ev_var rfl) (av_cons (ev_var rfl) av_nil)) ⟨g, xs, hg, Or.inr rfl, hx, by omega, rfl⟩))) (by rw [e0]; cases h1 : xs.isEmpty <;> cases h2 : CT.areNear g.n xs <;> simp [h1, h2] at hb ⊢)) (fun h => by cases h) fun _ => sv_next)
      (sv_seq (sv_asg (EvN.ev (ev_lcF (xs := g.ps) (wv_list (EvN.ev (en_meth0 (ev_var rfl) rfl av_nil ⟨g, hg, rfl, rfl⟩))) (fun y hy => ⟨_, gv_name (by decide), tv_test (ev_op (ev_var rfl) (ev_var rfl) rd_ninT), fun _ => ev_var rfl⟩) (by omega))))
      (sv_ret (ev_notV (ev_cb (av_cons (EvN.ev (ev_lcE0N (enc2 := .bl) (xs := g.ps.filter fun y => !decide (y ∈ xs)) (q := fun p => xs.all fun q => g.n p q) (wv_list (ev_var rfl)) (fun y hy => ⟨_, gv_name (by decide), EvD.is (ev_cb (av_cons (EvN.ev (ev_lcE0N (enc2 := .bl) (xs := xs) (q := fun q => g.n y q) (wv_tup (ev_var rfl))
        (fun z hz => ⟨_, gv_name (by decide), ev_meth0 (ev_var rfl) rfl (av_cons (ev_var rfl) (av_cons (ev_var rfl) av_nil)) ⟨g, y, z, hg, rfl, (List.mem_filter.mp hy).1, hx z hz, rfl⟩⟩) (by omega))) av_nil) ra_all) (by rw [List.all_map]; rfl)⟩) (Nat.le_trans (List.length_filter_le _ _) (by omega)))) av_nil) ra_any))))
theorem sc_need_good : FnScope ["chart"] ["chart"] (defScope (topS 34)) := ⟨rfl, rfl, rfl, by decide +kernel, rfl, by decide +kernel, by decide +kernel⟩
theorem ok_need_good (T : Kx K mg C) (F : FnP K "need_good" "need_good" (topS 34) f fd) (Gpeeling_of : Has P w K mg base "peeling_of" ["chart"] 9 (spF G0 (rPeelingOf C))) : FnOk P w K mg base CX0 10 f fd ["chart"] (spF G0 (rNeedGood C)) := by
  have nd := (sc_need_good).nd
  refine fn_ok F sc_need_good (fun as d ⟨g, _, e, _⟩ => by rw [e]; rfl) fun cdv A outer s H E hr => ?_
  refine ⟨_, (pss_one (ps_if (pt_cmpR op_isN (pe_h Gpeeling_of hr (pa_cons (pv 0) pa_nil)) pe_non (nomark _)) (pss_one ps_never) pss_nil)), ?_⟩
  rintro as d ⟨g, hg, rfl, hne, rfl⟩
  refine sv_end (sv_if (k := false) (tv_test (EvD.is (ev_op (ev_call0 (av_cons (ev_var rfl) av_nil) ⟨g, hg, rfl, rfl⟩) ev_non rd_isN) ?_)) (fun h => by cases h) fun _ => sv_next)
  cases h : CT.peelingOf g.ps g.n with
  | none => exact absurd h hne
  | some p => rfl
end
end CW
/-! M4 -/
/-! M4: mirrors of the crowd tree's defs. -/
namespace CT
variable {α : Type} [DecidableEq α]
abbrev Pr := Nat × Nat
def cm (cs : List (List α)) (p : Pr) : Nat := ((cs.getD p.1 []).filter fun x => decide (x ∈ cs.getD p.2 [])).length
def tie (l : List Nat) (p : Pr) : List Nat := l.map fun k => if k = l.getD p.2 0 then l.getD p.1 0 else k
def kStep (s : List Pr × List Nat) (p : Pr) : List Pr × List Nat := if s.2.getD p.1 0 = s.2.getD p.2 0 then s else (s.1 ++ [p], tie s.2 p)
def kruskal (m : Nat) (ps : List Pr) : List Pr × List Nat := ps.foldl kStep ([], List.range m)
def pairs0 (m : Nat) : List Pr := (List.range m).flatMap fun o => (List.range o).map fun k => (k, o)
def pairs1 (cs : List (List α)) : List Pr := (pairs0 cs.length).filter fun p => decide (0 < cm cs p)
/-- a pair of places, the lesser first -/
def PrOk (m : Nat) (p : Pr) : Prop := p.1 < p.2 ∧ p.2 < m
theorem mem_pairs0 {m : Nat} {p : Pr} : p ∈ pairs0 m ↔ PrOk m p := by
  obtain ⟨a, b⟩ := p
  unfold pairs0 PrOk
  simp only [List.mem_flatMap, List.mem_range, List.mem_map, Prod.mk.injEq]
  constructor
  · rintro ⟨o, ho, k, hk, rfl, rfl⟩; exact ⟨hk, ho⟩
  · rintro ⟨h1, h2⟩; exact ⟨b, h2, a, h1, rfl, rfl⟩
theorem pairs0_nodup (m : Nat) : (pairs0 m).Nodup := by
  unfold pairs0
  induction m with
  | zero => simp
  | succ m ih =>
    rw [List.range_succ, List.flatMap_append, List.nodup_append]
    refine ⟨ih, ?_, fun a ha b hb e => ?_⟩
    · simp only [List.flatMap_cons, List.flatMap_nil, List.append_nil]
      refine List.Pairwise.map _ (fun a b (h : a ≠ b) e => h (Prod.mk.inj e).1) List.nodup_range
    · subst e
      simp only [List.flatMap_cons, List.flatMap_nil, List.append_nil, List.mem_map, List.mem_range] at hb
      obtain ⟨k, hk, rfl⟩ := hb
      have := mem_pairs0.mp ha
      exact absurd this.2 (Nat.lt_irrefl _)
theorem tie_length (l : List Nat) (p : Pr) : (tie l p).length = l.length := List.length_map ..
/-- the judge's tally: none where two are alike already, or nothing is common -/
def jStep (cs : List (List α)) (s : Option (List Nat × Nat)) (p : Pr) : Option (List Nat × Nat) := match s with
  | none => none
  | some (l, k) => if l.getD p.1 0 = l.getD p.2 0 ∨ cm cs p = 0 then none else some (tie l p, k + cm cs p)
def judge (cs : List (List α)) (ps : List Pr) : Option (List Nat × Nat) := ps.foldl (jStep cs) (some (List.range cs.length, 0))
/-! ### orders -/
def posI (ps c : List α) : List Int := c.map fun x => (ps.idxOf x : Int)
def crowds (ps : List α) (n : α → α → Bool) (p : List α) : List (List α) := (crowdsRaw ps n p).mergeSort fun c d => decide (posI ps c ≤ posI ps d)
def pKey (cs : List (List α)) (p : Pr) : List Int := [-(cm cs p : Int), (p.1 : Int), (p.2 : Int)]
def allPairs (cs : List (List α)) : List Pr := (pairs1 cs).mergeSort fun p q => decide (pKey cs p ≤ pKey cs q)
def prI (p : Pr) : List Int := [(p.1 : Int), (p.2 : Int)]
def tree (cs : List (List α)) : List Pr := (kruskal cs.length (allPairs cs)).1.mergeSort fun p q => decide (prI p ≤ prI q)
theorem idx_look {β : Type} (h : Nat → β) {x : α} : ∀ (ps : List α) (k : Nat), x ∈ ps → ((ps.zipIdx k).map fun p => (p.1, h p.2)).lookup x = some (h (k + ps.idxOf x))
  | [], _, hx => by cases hx
  | y :: ps, k, hx => by
    rw [List.zipIdx_cons, List.map_cons, List.lookup_cons, List.idxOf_cons]
    by_cases e : x = y
    · subst e; simp
    · have e1 : (x == y) = false := by simpa using e
      have e2 : (y == x) = false := by simpa using fun z => e z.symm
      rw [e1, e2]
      have := idx_look h ps (k + 1) ((List.mem_cons.mp hx).resolve_left e)
      rw [show (k + bif false then 0 else ps.idxOf x + 1) = k + 1 + ps.idxOf x by simp only [cond_false]; omega]
      exact this
end CT
/-! P5 -/
/-! P5: crowd trees, the simple defs. -/
namespace CW
open PySem PySem.Spec PyProof.Rows L2
abbrev tS (xs : List Str) : D := .tup (sS xs)
abbrev crD (cs : List (List Str)) : D := .lst (cs.map tS)
abbrev nI (k : Nat) : D := .int (k : Int)
abbrev prD (p : CT.Pr) : D := .tup [nI p.1, nI p.2]
abbrev loD (l : List Nat) : D := .lst (l.map nI)
structure CrOk (cs : List (List Str)) : Prop where
  sz : cs.length ≤ 16
  each : ∀ c ∈ cs, c.length ≤ 16
def rCommon (as : List D) (d : D) : Prop := ∃ (cs : List (List Str)) (p : CT.Pr), CrOk cs ∧ as = [crD cs, prD p] ∧ CT.PrOk cs.length p ∧ d = nI (CT.cm cs p)
def rTiedLots (as : List D) (d : D) : Prop := ∃ (l : List Nat) (p : CT.Pr), as = [loD l, prD p] ∧ CT.PrOk l.length p ∧ l.length ≤ 100 ∧ d = loD (CT.tie l p)
def rIsNumber (as : List D) (d : D) : Prop := ∃ k : Nat, as = [nI k] ∧ d = .bl true
def rArePairs (as : List D) (d : D) : Prop := ∃ (ps : List CT.Pr) (m : Nat), (as = [.lst (ps.map prD), nI m] ∨ (as = [.tup [], nI m] ∧ ps = [])) ∧ (∀ p ∈ ps, CT.PrOk m p) ∧ d = .bl true
theorem ev_chain {Γ : Gam} {ρ : Rho} {r r' : R2} {ta tb tc : TE} {a b c : D} {k l : Bool} (ha : EvD Γ ta ρ a) (hb : EvD Γ tb ρ b) (h1 : RD2 Γ r a b (.bl k)) (hc : k = true → EvD Γ tc ρ c) (h2 : k = true → RD2 Γ r' b c (.bl l)) : EvD Γ (tChain r r' ta tb tc) ρ (.bl (k && l)) := fun σ S H s o Q q =>
  ha σ S H s o _ fun x S1 H1 n1 a1 => hb σ S1 H1 (s.mono n1.ex) n1.ok _ fun y S2 H2 n2 a2 => h1 x y S2 H2 (a1.mono n2.ex) a2 n2.ok _ fun z S3 H3 n3 a3 => by
    cases a3
    refine ⟨k, rfl, ?_⟩
    have n := (n1.trans n2).trans n3
    cases k with
    | false => exact q _ S3 H3 n (.bl false)
    | true => exact hc rfl σ S3 H3 (s.mono n.ex) n3.ok _ fun w S4 H4 n4 a4 => h2 rfl y w S4 H4 (a2.mono (n3.ex.trans n4.ex)) a4 n4.ok _ fun v S5 H5 n5 a5 => q v S5 H5 ((n.trans n4).trans n5) a5
/-- x += e -/
theorem sv_augI {Γ : Gam} {ρ : Rho} {μ : Mus} {te : TE} {i : Nat} {a b : Int} {g : Int → Int → Int} (hx : ρ[i]? = some (some (.int a))) (he : EvD Γ te (frz ρ μ) (.int b)) (hi : isIn μ i = false := by rfl) : SvD Γ (tAug i te (ipI g)) ρ μ (.nx (ρ.set i (some (.int (g a b)))) μ) := fun S0 H0 F S H σ k0 n f s m Dn q => by
  obtain ⟨v, h1, h2⟩ := s.at_ i _ hx
  cases h2
  obtain ⟨S', n', e', s', _⟩ := m.frz k0 n s
  refine ⟨_, h1, he σ S' H s' n'.ok _ fun y S2 H2 n2 a2 => ?_⟩
  cases a2
  exact ⟨a, b, rfl, rfl, q _ S H2 (n.back k0 n2) f (s.set i (.int _)) ((m.back k0 n2).set (not_in hi) _)⟩
theorem getD_map {α : Type} (xs : List α) (f : α → D) (i : Nat) (z : α) (h : i < xs.length) : (xs.map f)[i]? = some (f (xs.getD i z)) := by
  rw [List.getElem?_map, List.getElem?_eq_getElem h, List.getD_eq_getElem?_getD, List.getElem?_eq_getElem h]; rfl
section
variable {P : Program} {w : World} {K : PySem.W.Frag} {mg : Str → Option Value} {base : Heap} {C : Addr} {f : Addr} {fd : FuncData}
theorem sc_common_many : FnScope ["crowds", "pair", "post"] ["crowds", "pair"] (defScope (topS 37)) := ⟨rfl, rfl, rfl, by decide +kernel, rfl, by decide +kernel, by decide +kernel⟩
theorem ok_common_many (T : Kx K mg C) (F : FnP K "common_many" "common_many" (topS 37) f fd) : FnOk P w K mg base CX0 1 f fd ["crowds", "pair"] (spF G0 rCommon) := by
  have nd := (sc_common_many).nd
  have B := T.b
  refine fn_ok F sc_common_many (fun as d ⟨cs, p, _, e, _⟩ => by rw [e]; rfl) fun cdv A outer s H E hr => ?_
  refine ⟨_, (pss_one (ps_ret (w_len K B (pa_cons (pe_lc (own := [("post", 2)]) rfl nd (w_piT K (pe_ix (w_ixL K) (pv 0) (pe_ix (w_ixT K) (pv 1) pe_int (fun _ _ => rfl)) (fun _ _ => rfl))) (blkOk_by (by kernel_rfl)) (fun _ _ _ _ _ => (pg_name (i := 2) nd rfl (Or.inl rfl))) (fun _ _ _ _ _ => pts_one (pt_cmpR (w_in K) (pv 2) (pe_ix (w_ixL K) (pv 0) (pe_ix (w_ixT K) (pv 1) pe_int (fun _ _ => rfl)) (fun _ _ => rfl)) rfl)) (fun _ _ _ _ _ => (pv 2))) pa_nil)))), ?_⟩
  rintro as d ⟨cs, p, hc, rfl, hp, rfl⟩
  have l1 : p.1 < cs.length := Nat.lt_trans hp.1 hp.2
  have z : (cs.getD p.1 []).length ≤ 16 := by
    rw [List.getD_eq_getElem?_getD, List.getElem?_eq_getElem l1]; exact hc.each _ (List.getElem_mem l1)
  exact SvD.e <| sv_ret (EvD.is (ev_cb (av_cons (EvN.ev (ev_lcF (xs := cs.getD p.1 []) (enc := .str)
    (wv_tup (ev_op (ev_var rfl) (ev_op (ev_var rfl) ev_int (rd_ixT (n := 0) rfl rfl)) (rd_ixL (n := p.1) rfl (getD_map cs tS p.1 [] l1))))
    (fun y hy => ⟨_, gv_name (by decide), tv_test (ev_op (ev_var rfl) (ev_op (ev_var rfl) (ev_op (ev_var rfl) ev_int (rd_ixT (n := 1) rfl rfl)) (rd_ixL (n := p.2) rfl (getD_map cs tS p.2 [] hp.2))) rd_inT), fun _ => ev_var rfl⟩) (by omega))) av_nil) ra_len) (by rw [List.length_map]; rfl))
theorem sc_tied_lots : FnScope ["lots", "pair", "one", "other", "number", "lot"] ["lots", "pair"] (defScope (topS 39)) := ⟨rfl, rfl, rfl, by decide +kernel, rfl, by decide +kernel, by decide +kernel⟩
theorem nI_eq {a b : Nat} : decide ((a : Int) = (b : Int)) = decide (a = b) := decide_eq_decide.mpr Int.ofNat_inj
theorem ok_tied_lots (T : Kx K mg C) (F : FnP K "tied_lots" "tied_lots" (topS 39) f fd) : FnOk P w K mg base CX0 1 f fd ["lots", "pair"] (spF G0 rTiedLots) := by
  have nd := (sc_tied_lots).nd
  have B := T.b
  refine fn_ok F sc_tied_lots (fun as d ⟨cs, p, e, _⟩ => by rw [e]; rfl) fun cdv A outer s H E hr => ?_
  refine ⟨_, (pss_cons (ps_asg (pe_lc (own := [("number", 4)]) rfl nd (w_piT K (pv 1)) (blkOk_by (by kernel_rfl)) (fun _ _ _ _ _ => (pg_name (i := 4) nd rfl (Or.inl rfl))) (fun _ _ _ _ _ => pts_nil) (fun _ _ _ _ _ => (pe_ix (w_ixL K) (pv 0) (pv 4) (fun _ _ => rfl)))) (pg_lst (by rfl) (pgs_cons (pg_name (i := 2) nd rfl (Or.inr rfl)) (pgs_cons (pg_name (i := 3) nd rfl (Or.inr rfl)) pgs_nil))))
    (pss_one (ps_ret (pe_lc (own := [("lot", 5)]) rfl nd (w_piL K (pv 0)) (blkOk_by (by kernel_rfl)) (fun _ _ _ _ _ => (pg_name (i := 5) nd rfl (Or.inl rfl))) (fun _ _ _ _ _ => pts_nil) (fun _ _ _ _ _ => (pe_ifExp (pt_cmpR op_eq (pv 5) (pv 3) (nomark _)) (pv 2) (pv 5))))))), ?_⟩
  rintro as d ⟨l, p, rfl, hp, hz, rfl⟩
  have l1 : p.1 < l.length := Nat.lt_trans hp.1 hp.2
  refine SvD.e <| sv_seq (sv_asgG (vs := [2, 3]) (d := .lst [nI (l.getD p.1 0), nI (l.getD p.2 0)]) (EvN.ev (ev_lc0N (xs := [p.1, p.2]) (enc := nI) (h := fun k => nI (l.getD k 0)) (wv_tup (ev_var rfl)) (fun k hk => ⟨_, gv_name (by decide), ev_op (ev_var rfl) (ev_var rfl) (rd_ixL (n := k) rfl (getD_map l nI k 0 ?_))⟩) (by show 2 ≤ 90000; decide)))
    (gv_lst (gs_cons (gv_name (by decide)) (gs_cons (gv_name (by decide)) gs_nil))) (fun j _ => rfl)) (sv_ret (EvN.ev (ev_lcE0N (xs := l) (enc := nI) (enc2 := nI) (q := fun k => if k = l.getD p.2 0 then l.getD p.1 0 else k) (wv_list (ev_var rfl)) (fun k hk => ⟨_, gv_name (by decide), ev_if (k := decide (k = l.getD p.2 0)) (tv_test (EvD.is (ev_op (ev_var rfl) (ev_var rfl) rd_eqI) (by rw [nI_eq]))) (fun h => EvD.is (ev_var rfl) ?_) (fun h => EvD.is (ev_var rfl) ?_)⟩) (by omega))))
  · rcases List.mem_cons.mp hk with rfl | hk
    · exact l1
    · rw [List.mem_singleton.mp hk]; exact hp.2
  · rw [if_pos (of_decide_eq_true h)]
  · rw [if_neg (of_decide_eq_false h)]
theorem sc_is_number : FnScope ["value"] ["value"] (defScope (topS 22)) := ⟨rfl, rfl, rfl, by decide +kernel, rfl, by decide +kernel, by decide +kernel⟩
theorem ok_is_number (T : Kx K mg C) (F : FnP K "is_number" "is_number" (topS 22) f fd) : FnOk P w K mg base CX0 1 f fd ["value"] (spF G0 rIsNumber) := by
  have nd := (sc_is_number).nd
  have B := T.b
  refine fn_ok F sc_is_number (fun as d ⟨k, e, _⟩ => by rw [e]; rfl) fun cdv A outer s H E hr => ?_
  refine ⟨_, (pss_one (ps_ret (pe_and (w_isi K B (pa_cons (pv 0) (pa_cons (pe_bltn (v := .ty "int") (by rfl) B.int (by decide +kernel) rfl) pa_nil))) (pe_and (pe_not (w_isi K B (pa_cons (pv 0) (pa_cons (pe_bltn (v := .ty "bool") (by rfl) B.bool (by decide +kernel) rfl) pa_nil)))) (pe_one (pe_cmpR op_ge (pv 0) pe_int (nomark _))))))), ?_⟩
  rintro as d ⟨k, rfl, rfl⟩
  exact SvD.e <| sv_ret (EvD.is (ev_andV (ev_cb (av_cons (ev_var rfl) (av_cons ev_ty av_nil)) isi_intY) fun _ => ev_andV (ev_notV (ev_cb (av_cons (ev_var rfl) (av_cons ev_ty av_nil)) isi_intB)) fun _ => ev_op (ev_var rfl) ev_int rd_ge) (by
    rw [decide_eq_true (Int.natCast_nonneg k)]; rfl))
theorem sc_are_pairs : FnScope ["value", "many", "pair", "number"] ["value", "many"] (defScope (topS 41)) := ⟨rfl, rfl, rfl, by decide +kernel, rfl, by decide +kernel, by decide +kernel⟩
theorem ok_are_pairs (T : Kx K mg C) (F : FnP K "are_pairs" "are_pairs" (topS 41) f fd) (Gis_number : Has P w K mg base "is_number" ["value"] 1 (spF G0 rIsNumber)) : FnOk P w K mg base CX0 2 f fd ["value", "many"] (spF G0 rArePairs) := by
  have nd := (sc_are_pairs).nd
  have B := T.b
  refine fn_ok F sc_are_pairs (fun as d ⟨ps, m, e, _⟩ => by rcases e with e | ⟨e, _⟩ <;> (rw [e]; rfl)) fun cdv A outer s H E hr => ?_
  refine ⟨_, (pss_cons (ps_if (pt_not (pt_val (w_isiT K B (pa_cons (pv 0) (pa_cons (pe_tup (pa_cons (pe_bltn (v := .ty "list") (by rfl) B.list (by decide +kernel) rfl) (pa_cons (pe_bltn (v := .ty "tuple") (by rfl) B.tuple (by decide +kernel) rfl) pa_nil))) pa_nil))))) (pss_one (ps_ret pe_bl)) pss_nil)
    (pss_cons (ps_for PassesOwn.never rfl (w_piS K (pv 0)) (pg_name (i := 2) nd rfl (Or.inl rfl))
    (pss_cons (ps_if (PW.pt (pw_or (pt_not (pt_val (w_isi K B (pa_cons (pv 2) (pa_cons (pe_bltn (v := .ty "tuple") (by rfl) B.tuple (by decide +kernel) rfl) pa_nil))))) (pw_or (pt_cmpR op_ne (w_len K B (pa_cons (pv 2) pa_nil)) pe_int (nomark _)) (pw_or1 (pt_not (pt_val (w_all K B (pa_cons (pe_lc (own := [("number", 3)]) rfl nd (w_piT K (pv 2)) (blkOk_by (by kernel_rfl)) (fun _ _ _ _ _ => (pg_name (i := 3) nd rfl (Or.inl rfl))) (fun _ _ _ _ _ => pts_nil) (fun _ _ _ _ _ => (pe_h Gis_number hr (pa_cons (pv 3) pa_nil)))) pa_nil)))))))) (pss_one (ps_ret pe_bl)) pss_nil)
    (pss_one (ps_if (pt_not (pt_chain op_lt op_lt (pe_ix (w_ixT K) (pv 2) pe_int (fun _ _ => rfl)) (pe_ix (w_ixT K) (pv 2) pe_int (fun _ _ => rfl)) (pv 1))) (pss_one (ps_ret pe_bl)) pss_nil))))
    (pss_one (ps_ret pe_bl)))), ?_⟩
  rintro as d ⟨ps, m, he, hp, rfl⟩
  refine SvD.e ?_
  rcases he with rfl | ⟨rfl, rfl⟩
  · refine sv_seq (sv_if (k := false) (TvD.is (tv_not (tv_B (ev_cb (av_cons (ev_var rfl) (av_cons (ev_tup (av_cons ev_ty (av_cons ev_ty av_nil))) av_nil)) isiT_lst))) rfl) (fun h => by cases h) fun _ => sv_next) ?_
    refine sv_seq (sv_forA (vs := [2, 3]) (xs := ps) (enc := prD) (wv_seqL (ev_var rfl)) (fun j _ => rfl) fun i p hi => ?_) (sv_ret ev_bl)
    have hpp := hp p (List.mem_of_getElem? hi)
    refine ⟨_, _, gv_name (by decide), .inl (sv_seq (sv_if (k := false) (TvD.is (tv_or (tv_not (tv_B (ev_cb (av_cons (ev_var rfl) (av_cons ev_ty av_nil)) isi_tupY))) fun _ => tv_or (tv_test (ev_op (ev_cb (av_cons (ev_var rfl) av_nil) ra_lenT) ev_int rd_neI)) fun _ =>
      tv_not (tv_B (EvD.is (ev_cb (av_cons (EvN.ev (ev_lcE0N (enc2 := .bl) (xs := [p.1, p.2]) (enc := nI) (q := fun _ => true) (wv_tup (ev_var rfl)) (fun k hk => ⟨_, gv_name (by decide), ev_call0 (av_cons (ev_var rfl) av_nil) ⟨k, rfl, rfl⟩⟩) (by show 2 ≤ 90000; decide))) av_nil) ra_all) rfl))) rfl) (fun h => by cases h) fun _ => sv_next)
      (sv_if (k := false) (TvD.is (tv_not (tv_test (ev_chain (ev_op (ev_var rfl) ev_int (rd_ixT (n := 0) rfl rfl)) (ev_op (ev_var rfl) ev_int (rd_ixT (n := 1) rfl rfl)) rd_lt (fun _ => ev_var rfl) fun _ => rd_lt))) ?_) (fun h => by cases h) fun _ => sv_next)), rfl⟩
    rw [decide_eq_true (Int.ofNat_lt.mpr hpp.1), decide_eq_true (Int.ofNat_lt.mpr hpp.2)]; rfl
  · refine sv_seq (sv_if (k := false) (TvD.is (tv_not (tv_B (ev_cb (av_cons (ev_var rfl) (av_cons (ev_tup (av_cons ev_ty (av_cons ev_ty av_nil))) av_nil)) isiT_tup))) rfl) (fun h => by cases h) fun _ => sv_next) ?_
    exact sv_seq (sv_forA (vs := [2, 3]) (xs := ([] : List CT.Pr)) (enc := prD) (wv_seqT (ev_var rfl)) (fun j _ => rfl) fun i p hi => by cases hi) (sv_ret ev_bl)
end
end CW
/-! W8 -/
/-! W8: sorted(..), sorted(.., key=lambda p: ..). -/
namespace CW
open PySem PySem.Spec PyProof.Rows L2 NdefX
section
variable {prog : Program} {w : World} {A : Around} {E : Value → Shared → Prop} {s : Shared} {a kS : Addr} {vs : List Value} {e1 : Nat} {Fin : PySem.Fin → Shared → Prop} {kz : List PyData} {f : Value}
/-- the turns by key: G of the keys made so far and the state -/
theorem key_loop (G : List Value → Shared → Prop) (hka : kS ≠ a) (hlen : kz.length = vs.length) (hZ : vs.length ≤ sizeLine) (hal : PySem.W.AllAlike kz) (hsk : PySem.W.Sortable kz) (hu : ∀ d, d ∈ kz → A.units + d.depth < cLine) (g0 : G [] s)
    (there : ∀ kl s', G kl s' → (∃ ep, s'.heap.get? kS = some (seqObj "list" kl.toArray ep)) ∧ s'.heap.get? a = some (seqObj "list" #[] e1))
    (turn : ∀ (i : Nat) (x : Value) kl s', vs[i]? = some x → kl.length = i → G kl s' → wpAny (model prog w) A (call f [x]) (fun u s2 => (∃ ep, s2.heap.get? kS = some (seqObj "list" kl.toArray ep)) ∧
      ∀ h2 : Heap, (∀ b, b ≠ kS → h2.get? b = s2.heap.get? b) → (∃ ep, h2.get? kS = some (seqObj "list" (kl ++ [u]).toArray ep)) → G (kl ++ [u]) { s2 with heap := h2 }) (fun _ _ => False) s')
    (fin : ∀ kl s', G kl s' → kl.length = vs.length → PySem.W.EachIs (fun v k => ∃ as, Reads s'.heap v k as) kl kz ∧ ∀ h2 tk out c, (∀ b o, b ≠ a → b ≠ kS → s'.heap.get? b = some o → h2.get? b = some o) →
      h2.get? a = some (seqObj "list" (List.toArray out) c) → PySem.W.KeyedOut false kz vs out → Fin (.done (.ret .none)) { s' with heap := h2, toks := tk }) :
    wpAny (model prog w) A (ksk_rest a f false vs.toArray e1 (.ref kS)) Fin E s := by
  unfold ksk_rest; refine wpAny_bind (wpAny_rule ?_)
  first | rw [List.forIn_toArray] | (rw [← Array.forIn_toList]; simp only [List.toList_toArray])
  refine wpAny_bind (ksk_fold (fun i s' => ∃ kl : List Value, kl.length = i ∧ i ≤ vs.length ∧ G kl s') vs 0 s ⟨[], rfl, Nat.zero_le _, g0⟩ ?tn ?dn)
  case tn =>
    rintro j x s' hx ⟨kl, hk, hle, hG⟩
    rw [Nat.zero_add] at hk hle ⊢
    have hj : j < vs.length := (List.getElem?_eq_some_iff.mp hx).1
    refine wpAny_bind (wpAny_attempt (wpAny_mono (turn j x kl s' hx hk hG) (fun u s2 ⟨⟨ep, q1⟩, q2⟩ => ?_) fun _ _ z => z.elim))
    have lz : kl.toArray.size ≤ sizeLine := by rw [List.size_toArray]; omega
    have sb := Heap.SameBut.update s2.heap kS (Obj.mapSeq (·.push u))
    refine wpAny_bind (listUpdate_at q1 rfl (wpAny_pure ⟨rfl, kl ++ [u], by rw [List.length_append, hk]; rfl, hj, q2 _ (fun b hb => sb.2 b hb) ?_⟩) lz (by rw [Array.size_push]; omega))
    have q3 := PyProof.Rows.get?_update_seq q1 (·.push u)
    rw [List.push_toArray] at q3
    exact ⟨_, q3⟩
  case dn =>
    rintro s' ⟨kl, hk, _, hG⟩
    have hk' : kl.length = vs.length := by omega
    obtain ⟨⟨ep, q1⟩, q2⟩ := there kl s' hG
    obtain ⟨hr, hq⟩ := fin kl s' hG hk'
    refine wpAny_bind (listItems_at q1 rfl ?_)
    have nf := PyProof.Rows.TI.get?_update_freed s'.heap kS
    have kp : PySem.W.KeepsBut a (s'.heap.update kS fun o => { o with data := .freed }) s'.heap := fun b o hb z => by
      by_cases q : b = kS
      · rw [q, nf] at z; cases z
      · rw [Heap.get?_update_ne _ _ _ _ q] at z; exact z
    refine PySem.W.keyH_end (κ := PySem.W.dataKind s'.heap kz) kp nf q1 q2 hka (PySem.W.SortsAt.data hr hal hsk hu) (by rw [List.size_toArray]; exact hk') hZ fun h3 tk c k3 n3 => ?_
    refine hq h3 tk _ c (fun b o hb hb2 z => k3 b o hb ?_) n3 ⟨s'.heap, kl, hal, rfl, hr⟩
    rw [Heap.get?_update_ne _ _ _ _ hb2]; exact z
/-- .. behind the list's own beginning -/
theorem key_tree {nn : Nat} (G : Addr → Nat → List Value → Shared → Prop) (ho : s.heap.get? a = some (seqObj "list" vs.toArray nn)) (hlen : kz.length = vs.length) (hZ : vs.length ≤ sizeLine) (hal : PySem.W.AllAlike kz) (hsk : PySem.W.Sortable kz) (hu : ∀ d, d ∈ kz → A.units + d.depth < cLine)
    (g0 : ∀ (k : Addr) (h2 : Heap) (ep : Nat), s.heap.get? k = none → s.heap.objs.size ≤ k → (∀ b o, b ≠ a → s.heap.get? b = some o → h2.get? b = some o) → (∃ ex, h2.get? k = some (seqObj "list" #[] ex)) → h2.get? a = some (seqObj "list" #[] ep) → G k ep [] { s with heap := h2 })
    (there : ∀ k ep kl s', G k ep kl s' → (∃ ex, s'.heap.get? k = some (seqObj "list" kl.toArray ex)) ∧ s'.heap.get? a = some (seqObj "list" #[] ep))
    (turn : ∀ k ep (i : Nat) (x : Value) kl s', vs[i]? = some x → kl.length = i → G k ep kl s' → wpAny (model prog w) A (call f [x]) (fun u s2 => (∃ ex, s2.heap.get? k = some (seqObj "list" kl.toArray ex)) ∧
      ∀ h2 : Heap, (∀ b, b ≠ k → h2.get? b = s2.heap.get? b) → (∃ ex, h2.get? k = some (seqObj "list" (kl ++ [u]).toArray ex)) → G k ep (kl ++ [u]) { s2 with heap := h2 }) (fun _ _ => False) s')
    (fin : ∀ k ep kl s', G k ep kl s' → kl.length = vs.length → PySem.W.EachIs (fun v k => ∃ as, Reads s'.heap v k as) kl kz ∧ ∀ h2 tk out c, (∀ b o, b ≠ a → b ≠ k → s'.heap.get? b = some o → h2.get? b = some o) →
      h2.get? a = some (seqObj "list" (List.toArray out) c) → PySem.W.KeyedOut false kz vs out → Fin (.done (.ret .none)) { s' with heap := h2, toks := tk }) :
    wpAny (model prog w) A (ksk_tree a f false) Fin E s := by
  have la : a < s.heap.objs.size := Heap.lt_size ho
  have oa := PyProof.Rows.get?_update_seq ho fun _ => (#[] : Array Value)
  have sz : ((s.heap.update a (Obj.mapSeq fun _ => (#[] : Array Value))).push (seqObj "tuple" vs.toArray 0)).objs.size = s.heap.objs.size + 1 := by rw [size_push', Heap.size_update]
  unfold ksk_tree; refine wpAny_bind (listItems_at ho rfl (wpAny_bind (listUpdate_at ho rfl (wpAny_bind (seqEpoch_at oa rfl (wpAny_bind (wpAny_newTuple ?_ hZ)))) (by rw [List.size_toArray]; exact hZ) (Nat.zero_le _))))
  refine wpAny_bind (wpAny_newList (wpAny_holding ?_) (Nat.zero_le _))
  have hk := Heap.get?_push_size (((s.heap.update a (Obj.mapSeq fun _ => (#[] : Array Value))).push (seqObj "tuple" vs.toArray 0))) (o := seqObj "list" #[] 0) rfl
  refine key_loop (s := { s with heap := PySem.W.sortingHeap s.heap a vs }) (G _ _) (by rw [sz]; exact Nat.ne_of_gt (Nat.lt_succ_of_lt la)) hlen hZ hal hsk hu (g0 _ (PySem.W.sortingHeap s.heap a vs) _ ?_ ?_ ?_ ⟨_, hk⟩ (Heap.get?_push_of_some _ (Heap.get?_push_of_some _ oa))) (there _ _) (turn _ _) (fin _ _)
  · exact Heap.get?_none_of_le (by rw [sz]; exact Nat.le_succ _)
  · rw [sz]; exact Nat.le_succ _
  · exact fun b o hb q => PySem.W.sortingHeap_old hb q
end
/-! ### a lambda of one parameter, called -/
structure LamI where
  q : Str
  params : Arguments
  body : Expr
  scope : Scope
abbrev LamI.nf (L : LamI) (cl : List (Str × Addr)) (c : Addr) : NF := ⟨"<lambda>", L.q, L.params, [], L.scope, cl, c⟩
abbrev LamI.obj (L : LamI) (cl : List (Str × Addr)) (c : Addr) (pm ctv : Value) : Obj := PySem.W.kla_obj "<lambda>" L.q L.params L.body L.scope cl pm c ctv
theorem lam_run {P : Program} {w : World} {K : PySem.W.Frag} {mg : Str → Option Value} {base : Heap} {A : Around} {outer : List Env} {s : Shared} {H : Hp} {Q : VK} {E : XK} {N fr : List Str} {y : Str} {L : LamI} {cl : List (Str × Addr)} {f c : Addr} {pm ctv : Value} {k : Nat} {ws : List (Option V)} {v : V} {u : Value} {tb : TE}
    (S : NScope N [y] fr L.scope) (hb : ∀ (cl : List (Str × Addr)) (pm cv ctv : Value), bindArgs (PySem.W.kla_fn "<lambda>" L.q L.params L.body L.scope cl pm cv ctv) ⟨[u], []⟩ = pure [(y, u)]) (hr : Room (k + 1) A) (e0 : Env0 P w K mg base A outer s H)
    (ho : s.heap.get? f = some (L.obj cl c pm ctv)) (hc : H c = some (LamX.CodeO c L.q)) (C : CellsAt cl fr ws s.heap H) (r : RelV v u)
    (hbody : Room k (A.deeper (envF (L.nf cl c) f s.heap.objs.size)) → PE (ncx CX0 P w K mg base N (L.nf cl c) f A outer s H E) L.body tb) (ht : tb (startF N [v] ws) H Q) : codeAny (model P w) A (.call (.ref f) ⟨[u], []⟩) (CR CX0 outer P w H s Q E) s := by
  have lim : s.heap.NoLimit := e0.mod.nolimit.keeps fun b o e => (e0.bs b o e).1
  refine PySem.W.kla_callFunE hr.depth ho rfl S.co S.gen rfl (codeO_at e0.hok hc) ?_
  rw [hb]
  refine wpAny_pure (wpAny_newFunctionEnv S.nocell (fun z hz => by rw [List.mem_singleton.mp hz]; exact S.par y (List.mem_singleton.mpr rfl)) (fun h1 hns hsb => ⟨lim.fresh _ hsb, ?_⟩) S.kind)
  have kp : ∀ b o, s.heap.get? b = some o → h1.get? b = some o := fun b o z => hsb.extBut b o (Nat.ne_of_lt (Heap.lt_size z)) (Heap.get?_push_of_some _ z)
  have I : Inv (ncx CX0 P w K mg base N (L.nf cl c) f A outer s H E) [] (startF N [v] ws) H { s with heap := h1, toks := s.toks + 1 } := inv_startN (F := L.nf cl c) (us := [u]) S hr.hd e0 rfl (.cons r .nil) C hns kp
  refine PySem.W.kla_codeExpr (wpAny_mono ((hbody (hr.deeper _)).run [] _ _ H _ I ht) (fun v2 s2 hq => ?_) fun e s2 hq => hq)
  obtain ⟨v3, H3, J, rv, q⟩ := hq
  exact ⟨v3, H3, J.os, J.bare, J.base, J.hok, rv, q⟩
end CW
/-! W9 -/
/-! W9: sorted(.., key=lambda p: ..) as a rule. -/
namespace CW
open PySem PySem.Spec PyProof.Rows L2 NdefX LamX
section
variable {X : Cx} {pins : List (Addr × Obj)} {σ : L2.St} {H : Hp} {s : Shared}
/-- an address past all that the frame looks at -/
structure Far (X : Cx) (pins : List (Addr × Obj)) (n : Nat) : Prop where
  sz : X.s_0.heap.objs.size ≤ n
  loc : X.env.locals < n
  cel : ∀ x c, X.env.cells.lookup x = some c → c < n
  pin : ∀ p ∈ X.pn ++ pins, p.1 < n
  stk : ∀ b ∈ frs X.stack, b < n
theorem Far.of (I : Inv X pins σ H s) : Far X pins s.heap.objs.size :=
  ⟨I.sz, I.lt, fun x c e => let ⟨_, _, h, _⟩ := I.cell x c e; Heap.lt_size h, fun p hp => Heap.lt_size (I.pin p hp).1, fun b hb => by
    rcases List.mem_cons.mp (I.stkSub b hb) with e | e
    · rw [e]; exact I.lt
    · exact Nat.lt_of_not_le fun z => I.nofs z e⟩
theorem Far.ch {n : Nat} (F : Far X pins n) {b : Addr} (h : n ≤ b) : (b ∈ X.ex ∨ X.s_0.heap.objs.size ≤ b) ∧ b ≠ X.env.locals ∧ (∀ x c, X.env.cells.lookup x = some c → c ≠ b) ∧ ∀ p ∈ X.pn ++ pins, p.1 ≠ b :=
  ⟨.inr (Nat.le_trans F.sz h), fun z => Nat.lt_irrefl _ (Nat.lt_of_lt_of_le F.loc (z ▸ h)), fun x c e z => Nat.lt_irrefl _ (Nat.lt_of_lt_of_le (F.cel x c e) (z ▸ h)), fun p hp z => Nat.lt_irrefl _ (Nat.lt_of_lt_of_le (F.pin p hp) (z ▸ h))⟩
theorem Far.nofr {n : Nat} (F : Far X pins n) {b : Addr} (h : n ≤ b) : b ∉ frs X.stack := fun z => Nat.lt_irrefl _ (Nat.lt_of_lt_of_le (F.stk b z) h)
/-- untracked objects past it have turned -/
theorem inv_moved {n : Nat} {h2 : Heap} {t2 : Nat} {ch : List Addr} (I : Inv X pins σ H s) (F : Far X pins n) (kp : ∀ b o, b ∉ ch → s.heap.get? b = some o → h2.get? b = some o) (hn : ∀ b ∈ ch, H b = none ∧ n ≤ b) : Inv X pins σ H { s with heap := h2, toks := t2 } := by
  have nch : ∀ b u, H b = some u → b ∉ ch := fun b u e z => by rw [(hn b z).1] at e; cases e
  refine I.call (g' := s.gens) (d' := s.drawn) (t' := t2) (ch := ch) ⟨fun b o q _ _ hc => kp b o hc q, fun b o q _ _ hc => ⟨o.slots, kp b o hc q⟩, fun b o _ z _ => z, fun b o q hc => ⟨o, kp b o hc q⟩, fun _ _ z => z, fun _ _ _ z => z, fun b ps z => ⟨#[], by rw [z]; simp⟩⟩ (fun b u e => ?_) I.bare fun b hb => F.ch (hn b hb).2
  refine (I.hok b u e).stay (fun c v hc q => kp c v ?_ q) (fun _ z => z) fun _ _ z => z
  rcases hc with z | z
  · rw [z]; exact nch b u e
  · exact nch c _ z
/-- .. one of them is tracked from now on -/
theorem inv_known {n : Nat} {a : Addr} {o : HO} (I : Inv X pins σ H s) (F : Far X pins n) (hn : H a = none) (ha : n ≤ a) (new : ObjOk X.prog X.w (upd H a o) s.heap a o) : Inv X pins σ (upd H a o) s := by
  have ne : ∀ b u, H b = some u → b ≠ a := fun b u e => ne_of_none e hn
  have J := I.call (H' := upd H a o) (g' := s.gens) (d' := s.drawn) (t' := s.toks) (h' := s.heap) (ch := [a]) ⟨fun b ob q _ _ _ => q, fun b ob q _ _ _ => ⟨ob.slots, q⟩, fun b ob q z hc => by rw [upd_ne (fun e : b = a => hc (by rw [e]; exact List.mem_singleton.mpr rfl))]; exact z, fun b ob q _ => ⟨ob, q⟩,
    fun b xs z => by rw [upd_ne (ne b _ z)]; exact z, fun b u xs z => by rw [upd_ne (ne b _ z)]; exact z, fun b ps z => ⟨#[], by rw [upd_ne (ne b _ z), z]; simp⟩⟩ (fun b u e => ?_) I.bare fun b hb => by rw [List.mem_singleton.mp hb]; exact F.ch ha
  · exact J
  · by_cases q : b = a
    · subst q; rw [upd_same] at e; cases e; exact new
    · rw [upd_ne q] at e
      exact (I.hok b u e).stay (fun _ _ _ z => z) (fun c z => by rw [upd_ne (ne c _ z)]; exact z) fun c xs z => by rw [upd_ne (ne c _ z)]; exact z
end
section
variable {X : Cx} {pins : List (Addr × Obj)} {σ : L2.St} {H : Hp} {s : Shared}
/-- a lambda made: but for the maker's table all that is told stays -/
theorem lam_born {T : List (Addr × Str)} {c P : Addr} {params : Arguments} {body : Expr} {scope : Scope} {pos : Pos} {E : Value → Shared → Prop} {Q : Value → Shared → Prop} (I : Inv X pins σ H s) (TB : TabB X.base X.mg c P) (hcode : X.env.code = .ref c) (hP : (P, X.env.qual ++ "<lambda>") ∈ T)
    (hu : ∀ p ∈ T, p.1 = P → p.2 = X.env.qual ++ "<lambda>") (hT : Tabs T H) (hdef : defaultsOf params X.env = ([], [])) (hfree : ∀ y ∈ scope.names, y.2 = .free → ∃ c, X.env.cells.lookup y.1 = some c)
    (h : ∀ (f cc : Addr) (pm ctv : Value) (H1 : Hp) (s1 : Shared), Inv X pins σ H1 s1 → (∀ b o, b ≠ P → H b = some o → H1 b = some o) → Tabs T H1 → s1.heap.get? f = some (PySem.W.kla_obj "<lambda>" (X.env.qual ++ "<lambda>") params body scope (cloFrom X.env.cells scope.names []) pm cc ctv) → H1 f = none → f ∉ frs X.stack →
      H1 cc = some (CodeO cc (X.env.qual ++ "<lambda>")) → Q (.ref f) s1) : wpAny (model X.prog X.w) X.A (eval (.Lambda params body scope pos) X.env) Q E s := by
  obtain ⟨tb, eP, tri, told⟩ := hT _ hP
  have eP : H P = some (.tbl tb) := eP
  have told : ∀ (pos : Pos) (cv : Value), codeAmong pos tb.toList = some cv → ∃ c, cv = .ref c ∧ H c = some (CodeO c (X.env.qual ++ "<lambda>")) := told
  have F := Far.of I
  have old := I.hok P _ eP
  refine PySem.W.kla_eval hdef ?_
  cases q : codeAmong pos tb.toList with
  | some cv =>
    obtain ⟨cc, rfl, ecc⟩ := told pos cv q
    refine PySem.W.kla_makeFunctionHit (mg := X.mg) (c := c) (P := P) (ps := tb) (closure_ok hfree) I.ok.glob (I.mod.glob.keeps I.bk) hcode (TB.code.keeps I.bk) old tri q (TB.bm.keeps I.bk) fun ctv h2 tk k2 z2 => ?_
    exact h h2.objs.size cc _ ctv H _ (I.kept (t' := tk) fun b o e => Heap.get?_push_of_some _ (k2 b o e)) (fun _ _ _ e => e) hT (Heap.get?_push_size _ rfl) (I.hok.fresh z2) (F.nofr z2) ecc
  | none =>
    refine PySem.W.kla_makeFunction (mg := X.mg) (c := c) (P := P) (ps := tb) (closure_ok hfree) I.ok.glob (I.mod.glob.keeps I.bk) hcode (TB.code.keeps I.bk) old tri q TB.gP (TB.bm.keeps I.bk) fun cc ctv h2 tk k2 ge lt rec_ tab2 => ?_
    obtain ⟨c9, oc, fs, t, e0, e1, e2, e3⟩ := rec_
    cases e0
    have nc : H cc = none := I.hok.fresh ge
    have hz : s.heap.objs.size ≤ h2.objs.size := Nat.le_trans ge (Nat.le_of_lt lt)
    have J := inv_table (q := X.env.qual ++ "<lambda>") (t' := tk) (more := #[rawInt pos.line, rawInt pos.col, .ref cc]) (h' := h2.push (PySem.W.kla_obj "<lambda>" (X.env.qual ++ "<lambda>") params body scope (cloFrom X.env.cells scope.names []) ((X.mg "__name__").getD .none) cc ctv)) I eP (fun b o nb e => Heap.get?_push_of_some _ (k2 b o nb e)) (Heap.get?_push_of_some _ tab2) ge ⟨oc, fs, t, Heap.get?_push_of_some _ e1, e2, e3⟩
    have kept : ∀ b o, b ≠ P → H b = some o → upd (upd H P (.tbl (tb ++ #[rawInt pos.line, rawInt pos.col, .ref cc]))) cc (CodeO cc (X.env.qual ++ "<lambda>")) b = some o := fun b o nb e => by rw [upd_ne (ne_of_none e nc), upd_ne nb]; exact e
    have coP : ∀ {z : Addr} {r : Str}, H z = some (CodeO z r) → z ≠ P := fun e z => codeO_ne tb (Option.some.inj (e.symm.trans (by rw [z]; exact eP)))
    refine h h2.objs.size cc _ ctv _ _ J kept (fun p hp => ?_) (Heap.get?_push_size _ rfl) ?_ (F.nofr hz) upd_same
    · by_cases hb : p.1 = P
      · rw [hu p hp hb, hb]
        refine ⟨_, by rw [upd_ne (ne_of_none eP nc), upd_same], by rw [Array.toList_append]; exact PySem.TriplesOk_snoc _ _ _ _ tri, fun p2 cv e => ?_⟩
        rw [Array.toList_append] at e
        rcases among_app _ tri e with z | z
        · obtain ⟨c5, z1, z2⟩ := told p2 cv z
          exact ⟨c5, z1, kept _ _ (coP z2) z2⟩
        · exact ⟨cc, z, upd_same⟩
      · obtain ⟨tb2, z1, z2, z3⟩ := hT p hp
        refine ⟨tb2, kept _ _ hb z1, z2, fun p2 cv e => ?_⟩
        obtain ⟨c5, z4, z5⟩ := z3 p2 cv e
        exact ⟨c5, z4, kept _ _ (coP z5) z5⟩
    · rw [upd_ne (Nat.ne_of_gt lt), upd_ne (Nat.ne_of_gt (Nat.lt_of_lt_of_le (Heap.lt_size old) hz))]
      exact I.hok.fresh hz
end
theorem each_get {α β : Type} {R : α → β → Prop} : ∀ {as : List α} {bs : List β} {i : Nat} {a : α}, PySem.W.EachIs R as bs → as[i]? = some a → ∃ b, bs[i]? = some b ∧ R a b
  | _, _, _, _, .nil, h => by cases h
  | _, _, 0, _, .cons h t, e => by cases e; exact ⟨_, rfl, h⟩
  | _, _, i + 1, _, .cons h t, e => each_get (i := i) t (by simpa using e)
theorem each_imp {α β : Type} {R R' : α → β → Prop} (f : ∀ a b, R a b → R' a b) : ∀ {as : List α} {bs : List β}, PySem.W.EachIs R as bs → PySem.W.EachIs R' as bs
  | _, _, .nil => .nil
  | _, _, .cons h t => .cons (f _ _ h) (each_imp f t)
theorem each_app {α β : Type} {R : α → β → Prop} {a : α} {b : β} (h : R a b) : ∀ {as : List α} {bs : List β}, PySem.W.EachIs R as bs → PySem.W.EachIs R (as ++ [a]) (bs ++ [b])
  | _, _, .nil => .cons h .nil
  | _, _, .cons g t => .cons g (each_app h t)
/-- values told by V's -/
theorem each_vals {β : Type} {R : V → β → Prop} : ∀ {us : List Value} {xs : List V} {bs : List β}, Vals xs us → PySem.W.EachIs R xs bs → PySem.W.EachIs (fun u b => ∃ v, RelV v u ∧ R v b) us bs
  | _, _, _, .nil, .nil => .nil
  | _, _, _, .cons r rs, .cons h t => .cons ⟨_, r, h⟩ (each_vals rs t)
theorem vals_each {β : Type} {R : V → β → Prop} : ∀ {us : List Value} {bs : List β}, PySem.W.EachIs (fun u b => ∃ v, RelV v u ∧ R v b) us bs → ∃ xs, Vals xs us ∧ PySem.W.EachIs R xs bs
  | _, _, .nil => ⟨[], .nil, .nil⟩
  | _, _, .cons ⟨v, r, h⟩ t => let ⟨xs, a, b⟩ := vals_each t; ⟨v :: xs, .cons r a, .cons h b⟩
/-- the reading of sorted(e, key=lambda y: body) -/
def SortQ (K : PySem.W.Frag) (T : List (Addr × Str)) (q : Str) (N : List Str) (js : List Nat) (tb : TE) (P : Addr) (σ : L2.St) (Q : VK) (x : V) (H1 : Hp) : Prop := Tabs T H1 ∧ ∃ a, x = .ref a ∧ ∀ (H2 : Hp) (c : Addr), (∀ b o, b ≠ P → H1 b = some o → H2 b = some o) → Tabs T H2 → H2 c = some (CodeO c q) →
  ∃ (β : Type) (xs : List V) (bs : List β) (key : β → PyData) (R : V → β → Prop) (J : Hp → Hp → Prop) (S2 : Hp), SqL K H2 a xs ∧ PySem.W.EachIs R xs bs ∧ PySem.W.AllAlike (bs.map key) ∧ PySem.W.Sortable (bs.map key) ∧ (∀ b ∈ bs, (key b).depth ≤ 8) ∧ J S2 H2 ∧
    (∀ S H3, J S H3 → Ex S H3 ∧ H3 c = some (CodeO c q)) ∧
    (∀ v b S H3, R v b → b ∈ bs → J S H3 → tb (startF N [v] (js.map (slotAt σ))) H3 fun kv H4 => ∃ S4 d, J S4 H4 ∧ Ex S S4 ∧ At S4 kv d ∧ d.ok = true ∧ d.py = key b) ∧
    ∀ S H3 ys p, J S H3 → PySem.W.EachIs R ys (bs.mergeSort (PySem.W.dataLe false key)) → H3 p = none → Q (.ref p) (upd H3 p (.lst ys))
def OneV (g : V → Hp → Prop) : List V → Hp → Prop
  | [x], H => g x H
  | _, _ => False
theorem OneV.out {g : V → Hp → Prop} : ∀ {vs : List V} {H : Hp}, OneV g vs H → ∃ x, vs = [x] ∧ g x H
  | [x], _, h => ⟨x, rfl, h⟩
  | [], _, h => h.elim
  | _ :: _ :: _, _, h => h.elim
theorem vals_one {x : V} {us : List Value} (r : Vals [x] us) : ∃ u, us = [u] ∧ RelV x u := by
  cases r with
  | cons a b => cases b; exact ⟨_, rfl, a⟩
def tSortL (K : PySem.W.Frag) (T : List (Addr × Str)) (q : Str) (N : List Str) (js : List Nat) (tb te : TE) (P : Addr) : TE := fun σ H Q => te σ H fun x H1 => SortQ K T q N js tb P σ Q x H1
section
variable {X : Cx} {y : Str} {N fr : List Str} {js : List Nat} {k : Nat} {T : List (Addr × Str)} {c P : Addr} {params : Arguments} {body e : Expr} {scope : Scope} {pos lpos kpos p : Pos} {te tb : TE}
abbrev lamI (X : Cx) (params : Arguments) (body : Expr) (scope : Scope) : LamI := ⟨X.env.qual ++ "<lambda>", params, body, scope⟩
theorem pe_sortL (K : PySem.W.Frag) (hm : X.mg "sorted" = none) (TB : TabB X.base X.mg c P) (hT : (P, X.env.qual ++ "<lambda>") ∈ T) (hu : ∀ p ∈ T, p.1 = P → p.2 = X.env.qual ++ "<lambda>") (hr : Room (k + 3) X.A) (he : PA X [e] (tCons te tNil)) (SC : NScope N [y] fr scope)
    (cp : X.Ok → Caps X (cloFrom X.env.cells scope.names []) fr js) (hfree : X.Ok → ∀ z ∈ scope.names, z.2 = .free → ∃ c, X.env.cells.lookup z.1 = some c)
    (hb : ∀ (q : Str) (cl : List (Str × Addr)) (pm cv ctv u : Value), bindArgs (PySem.W.kla_fn "<lambda>" q params body scope cl pm cv ctv) ⟨[u], []⟩ = pure [(y, u)])
    (hbody : ∀ (A : Around) (s : Shared) (H : Hp) (E : XK) (f cc : Addr) (cl : List (Str × Addr)), Room k (A.deeper (envF ((lamI X params body scope).nf cl cc) f s.heap.objs.size)) → PE (ncx CX0 X.prog X.w X.K X.mg X.base N ((lamI X params body scope).nf cl cc) f A X.stack s H E) body tb)
    (hcode : X.env.code = .ref c) (hdef : defaultsOf params X.env = ([], []) := by rfl) (hK : X.K = K := by rfl) (hg : Gl X "sorted" := by rfl)
    (h1 : backTo pos (starEach [e] X.env) = (false, eval e X.env) :: backTo pos (starEach [] X.env) := by rfl) (h2 : (backTo pos (starEach [e] X.env)).any (·.1) = false := by rfl)
    (h3 : (backToKw pos (keywordEach [⟨some "key", .Lambda params body scope lpos, kpos⟩] X.env)).all (·.1.isSome) = true := by rfl) (h4 : (backToKw pos (keywordEach [⟨some "key", .Lambda params body scope lpos, kpos⟩] X.env)).any (·.1.isNone) = false := by rfl) :
    PE X (.Call (.Name "sorted" p) [e] [⟨some "key", .Lambda params body scope lpos, kpos⟩] pos) (tSortL K T (X.env.qual ++ "<lambda>") N js tb te P) := by
  subst hK
  refine ⟨fun pins s σ H Q I h => ?_⟩
  refine wpAny_Call_Name_kw (ld_blt I hg hm (u := .builtin "sorted") (by decide +kernel) ?_ (by decide) (by decide))
  refine PyProof.Rows.callWith_kw (thn (he.run pos pins s σ H (OneV (SortQ X.K T (X.env.qual ++ "<lambda>") N js tb P σ Q)) I h) fun us s1 ⟨vs, H1, I1, r1, q1⟩ => ?_) h1 h2 h3 h4
  obtain ⟨x, rfl, q1⟩ := q1.out
  obtain ⟨u1, rfl, rx⟩ := vals_one r1
  obtain ⟨hT1, a, rfl, q2⟩ := q1
  obtain rfl : u1 = Value.ref a := rx
  show wpAny _ _ (evalAll ((do let v ← eval (.Lambda params body scope lpos) X.env; standAt pos; pure v) :: [])) _ _ s1
  refine wpAny_evalAll_cons (wpAny_bind (lam_born I1 TB hcode hT hu hT1 hdef (hfree I1.ok) fun f cc pm ctv H2 s2 I2 eN T2 hobj hfn hfr hco => wpAny_bind (wpAny_standAt (wpAny_pure (wpAny_evalAll_nil ?_)))))
  show wpAny _ _ (call (.builtin "sorted") [.ref a] [(Str.ofString "key", .ref f)]) _ _ s2
  obtain ⟨β, xs, bs, key, R, J, S2, hs, hea, hal, hsk, hdp, hJ0, hJ, htn, hend⟩ := q2 H2 cc eN T2 hco
  obtain ⟨its, rv, hl, hz⟩ := I2.list hs
  have F := Far.of I2
  have ei := each_vals rv hea
  have hn : its.length = bs.length := ei.length
  have hzi : its.length ≤ sizeLine := by rw [← rv.length]; exact hz
  have hf0 : f < s2.heap.objs.size := Heap.lt_size hobj
  have hun := hr.units
  have fresh : s2.heap.get? (s2.heap.objs.size + 1) = none := Heap.get?_none_of_le (Nat.le_succ _)
  refine PySem.W.sorted_of_sort hl.isList hzi (ksk_s1 _ _) (fun _ => ksk_l1 _ _) fun E' => ?_
  rw [ksk_t1]
  refine key_tree (s := { s2 with heap := PySem.W.copyHeap s2.heap its }) (kz := bs.map key) (fun kk ep kl s' => ∃ S H, J S H ∧ Inv X pins σ H s' ∧ (∃ ex, s'.heap.get? kk = some (seqObj "list" kl.toArray ex)) ∧ s'.heap.get? (s2.heap.objs.size + 1) = some (seqObj "list" #[] ep) ∧ H kk = none ∧ H (s2.heap.objs.size + 1) = none ∧
      kk ≠ s2.heap.objs.size + 1 ∧ s2.heap.objs.size ≤ kk ∧ s'.heap.get? f = some ((lamI X params body scope).obj (cloFrom X.env.cells scope.names []) cc pm ctv) ∧ H f = none ∧ PySem.W.EachIs (fun u b => ∃ v d, RelV v u ∧ At S v d ∧ d.ok = true ∧ d.py = key b) kl (bs.take kl.length))
    (PySem.W.copyHeap_at s2.heap its) (by rw [List.length_map]; exact hn.symm) hzi hal hsk (fun d hd => ?_) (fun kk h2 ep hk1 hk2 hk3 hk4 hk5 => ?_) (fun kk ep kl s' ⟨_, _, _, _, g1, g2, _⟩ => ⟨g1, g2⟩) (fun kk ep i x kl s' hx hk ⟨S, H, g1, g2, ⟨ex, g3⟩, g4, g5, g6, g7, g8, g9, g10, g11⟩ => ?_) (fun kk ep kl s' ⟨S, H, g1, g2, ⟨ex, g3⟩, g4, g5, g6, g7, g8, g9, g10, g11⟩ hk => ⟨?_, fun h2 tk out c2 hkp hout hko => ⟨rfl, ?_⟩⟩)
  · obtain ⟨b, hb, rfl⟩ := List.mem_map.mp hd
    have := hdp b hb
    show X.A.units + 1 + 1 + (key b).depth < cLine
    omega
  · have kp : ∀ b o, s2.heap.get? b = some o → h2.get? b = some o := fun b o q => hk3 b o (fun z => by rw [z, fresh] at q; cases q) (PySem.W.copyHeap_old q)
    have lk : s2.heap.objs.size ≤ kk := by
      refine Nat.le_of_not_lt fun z => ?_
      have : (PySem.W.copyHeap s2.heap its).objs.size ≤ kk := hk2
      have h0 : s2.heap.objs.size + 1 < (PySem.W.copyHeap s2.heap its).objs.size := Heap.lt_size (PySem.W.copyHeap_at s2.heap its)
      omega
    refine ⟨S2, H2, hJ0, I2.kept (t' := s2.toks) kp, hk4, hk5, I2.hok.fresh lk, I2.hok.fresh (Nat.le_succ _), fun z => ?_, lk, kp _ _ hobj, hfn, .nil⟩
    have h0 := PySem.W.copyHeap_at s2.heap its
    rw [← z] at h0
    rw [show (PySem.W.copyHeap s2.heap its).get? kk = none from hk1] at h0
    cases h0
  · obtain ⟨b, hbi, v, rvx, hR⟩ := each_get ei hx
    have hbm := List.mem_of_getElem? hbi
    have rc := lam_run (k := k) (E := E0) (A := X.A.in1.in1) (L := lamI X params body scope) SC (fun cl pm cv ctv => hb _ cl pm cv ctv x) hr.in1.in1 g2.env0.in1.in1 g9 (hJ S H g1).2 (cells_of g2 (cp g2.ok)) rvx (hbody _ s' H E0 f cc _) (htn v b S H hR hbm g1)
    refine wpAny_call (codeAny_mono rc fun r s3 hq => ?_)
    cases r with
    | error ee => exact (show False from hq).elim
    | ok fl =>
      cases fl with
      | next => exact False.elim hq
      | brk => exact False.elim hq
      | cont => exact False.elim hq
      | ret u =>
        obtain ⟨v4, H4, os4, bare4, un4, hok4, rv4, S4, d4, j4, x4, a4, o4, p4⟩ := hq
        have I4 : Inv X pins σ H4 s3 := g2.call' (ch := []) os4 un4 hok4 bare4 fun b z => nomatch z
        have k4 := un4.keep kk _ g3 g5 (F.nofr g8) (fun z => nomatch z)
        have a5 := un4.keep _ _ g4 g6 (F.nofr (Nat.le_succ _)) (fun z => nomatch z)
        have f5 := un4.keep f _ g9 g10 hfr (fun z => nomatch z)
        have nk := un4.free kk _ g3 g5 (fun z => nomatch z)
        have na := un4.free _ _ g4 g6 (fun z => nomatch z)
        have nf := un4.free f _ g9 g10 (fun z => nomatch z)
        refine ⟨⟨ex, k4⟩, fun h2 hot hnew => ⟨S4, H4, j4, ?_, hnew, (hot _ (Ne.symm g7)).trans a5, nk, na, g7, g8, (hot f (Nat.ne_of_lt (Nat.lt_of_lt_of_le hf0 g8))).trans f5, nf, ?_⟩⟩
        · exact inv_moved (t2 := s3.toks) (ch := [kk]) I4 F (fun b o hb q => (hot b fun z => hb (by rw [z]; exact List.mem_singleton.mpr rfl)).trans q) fun b hb => by rw [List.mem_singleton.mp hb]; exact ⟨nk, g8⟩
        · have e5 : bs.take (kl ++ [u]).length = bs.take kl.length ++ [b] := by
            rw [List.length_append, show [u].length = 1 from rfl, List.take_add_one, hk, hbi]; rfl
          rw [e5]
          exact each_app ⟨v4, d4, rv4, a4, o4, p4⟩ (each_imp (fun u2 b2 ⟨v2, d2, w1, w2, w3⟩ => ⟨v2, d2, w1, w2.mono x4, w3⟩) g11)
  · rw [hk, hn, List.take_length] at g11
    exact PySem.W.each_map key (each_imp (fun u2 b2 ⟨v2, d2, w1, w2, w3, w4⟩ => w4 ▸ Dp.reads g2 _ _ _ ((w2.mono (hJ S H g1).1).dp w3) w1) g11)
  · obtain ⟨ys, y1, y2⟩ := vals_each (PySem.W.keyedOut_each key hko ei)
    have nm : ∀ b ∈ [s2.heap.objs.size + 1, kk], H b = none ∧ s2.heap.objs.size ≤ b := fun b hb => by
      rcases List.mem_cons.mp hb with z | z
      · rw [z]; exact ⟨g6, Nat.le_succ _⟩
      · rw [List.mem_singleton.mp z]; exact ⟨g5, g8⟩
    have I5 := inv_moved (h2 := h2) (t2 := tk) g2 F (fun b o hb q => hkp b o (fun z => hb (by rw [z]; exact List.mem_cons_self)) (fun z => hb (by rw [z]; exact List.mem_cons_of_mem _ (List.mem_singleton.mpr rfl))) q) nm
    have ly : ys.length ≤ sizeLine := by
      have := y2.length
      rw [List.length_mergeSort] at this
      omega
    exact ⟨.ref _, upd H (s2.heap.objs.size + 1) (.lst ys), inv_known I5 F g6 (Nat.le_succ _) ⟨ly, out, c2, y1, hout⟩, rfl, hend S H ys _ g1 y2 g6⟩
end
end CW
/-! W10 -/
/-! W10: sorted as data. -/
namespace CW
open PySem PySem.Spec PyProof.Rows L2 NdefX LamX
/-! ### effects: tables of code objects -/
def ΓT (T : List (Addr × Str)) : Gam where
  B := fun a => ∃ q, (a, q) ∈ T
  J := Tabs T
  st := fun H H2 k j p hp => by
    obtain ⟨ps, h1, h2, h3⟩ := j p hp
    refine ⟨ps, k _ _ h1 (.inr ⟨p.2, hp⟩), h2, fun pos cv e => ?_⟩
    obtain ⟨c, e1, e2⟩ := h3 pos cv e
    exact ⟨c, e1, k _ _ e2 (.inl trivial)⟩
  lv := fun H b j ⟨q, hq⟩ => by
    obtain ⟨ps, h1, _⟩ := j _ hq
    rw [show H b = some (.tbl ps) from h1]
    exact fun z => nomatch z
structure LamOk (Γ : Gam) (T : List (Addr × Str)) (P : Addr) : Prop where
  tab : ∀ H, Γ.J H → Tabs T H
  made : ∀ S H H2, Ok Γ S H → (∀ b o, b ≠ P → H b = some o → H2 b = some o) → Tabs T H2 → Nx Γ S H S H2
  code : ∀ H c q, Γ.J H → H c = some (CodeO c q) → ¬ Γ.B c
theorem lamOk {T : List (Addr × Str)} {P : Addr} {q : Str} (h : (P, q) ∈ T) : LamOk (ΓT T) T P where
  tab := fun H j => j
  made := fun S H H2 k e t => by
    have nb : ∀ {a}, ¬ (ΓT T).B a → a ≠ P := fun n z => n (z ▸ ⟨q, h⟩)
    have ns : ∀ a o, S a = some o → a ≠ P := fun a o z y => by
      have := k.off a (y ▸ ⟨q, h⟩)
      rw [this] at z; cases z
    exact ⟨Ex.refl S, ⟨fun a o z => e a o (ns a o z) (k.ex a o z), t, k.off⟩, fun a o b z => e a o (nb b) z, fun _ _ => rfl⟩
  code := fun H c q2 j e ⟨q3, hb⟩ => by
    obtain ⟨ps, h1, _⟩ := j _ hb
    rw [show H c = some (.tbl ps) from h1] at e
    exact codeO_ne ps (Option.some.inj e).symm
/-! ### sorted(e, key=lambda y: ..) -/
theorem each_at {β : Type} {S : Hp} {enc : β → D} : ∀ {vs : List V} {bs : List β}, AtAll S vs (bs.map enc) → PySem.W.EachIs (fun v b => At S v (enc b)) vs bs
  | [], [], _ => .nil
  | _ :: _, _ :: _, .cons h t => .cons h (each_at t)
theorem at_each {β : Type} {S : Hp} {enc : β → D} : ∀ {vs : List V} {bs : List β}, PySem.W.EachIs (fun v b => At S v (enc b)) vs bs → AtAll S vs (bs.map enc)
  | _, _, .nil => .nil
  | _, _, .cons h t => .cons h (at_each t)
def keptR (ρ : Rho) (js : List Nat) : Rho := js.map fun j => (ρ[j]?).getD none
theorem slotAt_sl {S : Hp} {σ : L2.St} {ρ : Rho} (s : Sl S σ ρ) (js : List Nat) (i : Nat) (d : D) (h : (keptR ρ js)[i]? = some (some d)) : ∃ v, (js.map (slotAt σ))[i]? = some (some v) ∧ At S v d := by
  unfold keptR at h
  rw [List.getElem?_map] at h
  cases q : js[i]? with
  | none => rw [q] at h; cases h
  | some j =>
    rw [q] at h
    have h2 : (ρ[j]?).getD none = some d := Option.some.inj h
    cases q2 : ρ[j]? with
    | none => rw [q2] at h2; cases h2
    | some o =>
      rw [q2] at h2
      have h3 : o = some d := h2
      obtain ⟨v, e1, e2⟩ := s.at_ j d (by rw [q2, h3])
      exact ⟨v, by rw [List.getElem?_map, q]; exact congrArg some (slotAt_of e1), e2⟩
theorem sl_lam {S : Hp} {σ : L2.St} {ρ : Rho} {N : List Str} {js : List Nat} {v : V} {d : D} (s : Sl S σ ρ) (a : At S v d) (hN : 1 + js.length ≤ N.length) : Sl S (startF N [v] (js.map (slotAt σ))) (some d :: (keptR ρ js ++ List.replicate (N.length - 1 - js.length) none)) := by
  have l1 : (js.map (slotAt σ)).length = js.length := List.length_map ..
  have l2 : (keptR ρ js).length = js.length := List.length_map ..
  refine ⟨?_, fun i x h => ?_⟩
  · unfold startF
    simp only [List.map_cons, List.map_nil, List.length_append, List.length_cons, List.length_nil, List.length_replicate, l1, l2]
    omega
  · unfold startF
    cases i with
    | zero => cases h; exact ⟨v, rfl, a⟩
    | succ i =>
      have h' : (keptR ρ js ++ List.replicate (N.length - 1 - js.length) none)[i]? = some (some x) := h
      by_cases q : i < js.length
      · rw [List.getElem?_append_left (by omega)] at h'
        obtain ⟨u, e1, e2⟩ := slotAt_sl s js i x h'
        refine ⟨u, ?_, e2⟩
        show ((js.map (slotAt σ)) ++ List.replicate (N.length - [v].length - (js.map (slotAt σ)).length) none)[i]? = _
        rw [List.getElem?_append_left (by omega)]; exact e1
      · rw [List.getElem?_append_right (by omega), List.getElem?_replicate] at h'
        split at h' <;> cases h'
section
variable {Γ : Gam} {T : List (Addr × Str)} {P : Addr} {q : Str} {N : List Str} {js : List Nat} {tb te : TE} {ρ : Rho} {K : PySem.W.Frag} {β : Type} {bs : List β} {enc kd : β → D}
theorem en_sortL (L : LamOk Γ T P) (he : EvD Γ te ρ (.lst (bs.map enc))) (hN : Nat.ble (1 + js.length) N.length = true) (hk : ∀ b ∈ bs, EvD Γ tb (some (enc b) :: (keptR ρ js ++ List.replicate (N.length - 1 - js.length) none)) (kd b)) (hok : ∀ b ∈ bs, (kd b).ok = true)
    (hal : PySem.W.AllAlike (bs.map fun b => (kd b).py)) (hsk : PySem.W.Sortable (bs.map fun b => (kd b).py)) (hdp : ∀ b ∈ bs, (kd b).py.depth ≤ 8) : EvN Γ (tSortL K T q N js tb te P) ρ (.lst ((bs.mergeSort (PySem.W.dataLe false fun b => (kd b).py)).map enc)) := fun σ S H s k Q qq =>
  he σ S H s k _ fun v S1 H1 n1 a => by
    refine ⟨L.tab _ n1.ok.j, ?_⟩
    cases a with
    | lst e al =>
      refine ⟨_, rfl, fun H2 c k2 t2 hc => ?_⟩
      have n2 := L.made S1 H1 H2 n1.ok k2 t2
      refine ⟨β, _, bs, fun b => (kd b).py, fun v b => b ∈ bs ∧ At S1 v (enc b), fun S3 H3 => Nx Γ S1 H2 S3 H3, S1, .of (n2.ok.ex _ _ e), ?_, hal, hsk, hdp, .refl n2.ok, fun S3 H3 n3 => ⟨n3.ok.ex, n3.fr c _ (L.code _ c _ n2.ok.j hc) hc⟩, fun v b S3 H3 hR hb n3 => ?_, fun S3 H3 ys p n3 hy hp => ?_⟩
      · exact each_imp (fun _ _ z => ⟨z.2, z.1⟩) (PySem.W.each_mem (each_at al))
      · refine hk b hb _ S3 H3 (sl_lam (s.mono (n1.ex.trans n3.ex)) (hR.2.mono n3.ex) (Nat.le_of_ble_eq_true hN)) n3.ok _ fun kv S4 H4 n4 a4 => ?_
        exact ⟨S4, kd b, n3.trans n4, n4.ex, a4, hok b hb, rfl⟩
      · have n5 : Nx Γ S H S3 (upd H3 p (.lst ys)) := ((n1.trans n2).trans n3).trans (.hid n3.ok hp _)
        exact qq p S3 _ _ n5 (live_of n1 (live_of n2 (live_of n3 hp))) (n3.ok.fresh hp) upd_same (.lst (at_each (each_imp (fun _ _ z => z.2.mono n3.ex) hy)))
end
/-! ### sorted(xs) -/
def rSortD (K : PySem.W.Frag) : List V → Hp → VK → Prop := fun vs H Q => ∃ (β : Type) (a : Addr) (xs : List V) (bs : List β) (key : β → PyData) (R : V → β → Prop), vs = [.ref a] ∧ SqL K H a xs ∧ PySem.W.EachIs R xs bs ∧ (∀ v b, R v b → Dp K H v (key b)) ∧
  PySem.W.AllAlike (bs.map key) ∧ PySem.W.Sortable (bs.map key) ∧ (∀ b ∈ bs, (key b).depth ≤ 8) ∧ ∀ ys p, PySem.W.EachIs R ys (bs.mergeSort (PySem.W.dataLe false key)) → H p = none → Q (.ref p) (upd H p (.lst ys))
theorem cr_sortD {X : Cx} (hu : X.A.units + 64 < cLine) : CallR X (.builtin "sorted") (rSortD X.K) := by
  intro pins s σ H vs us Q I r h
  obtain ⟨β, a, xs, bs, key, R, rfl, hs, he, hD, hal, hsk, hdp, q⟩ := h
  obtain ⟨u, rfl, rx⟩ := vals_one r
  obtain rfl : u = Value.ref a := rx
  obtain ⟨its, rv, hl, hz⟩ := I.list hs
  have ei := each_vals rv he
  have hn := ei.length
  have hzi : its.length ≤ sizeLine := by rw [← rv.length]; exact hz
  refine PySem.W.sorted_data hl.isList ei (each_imp (fun u b ⟨v, w1, w2⟩ => Dp.reads I _ _ _ (hD v b w2) w1) ei) hal hsk (by omega) (fun b hb => by have := hdp b hb; omega) fun out ho eo => ?_
  obtain ⟨ys, y1, y2⟩ := vals_each eo
  obtain ⟨ep, he'⟩ := PyProof.Rows.sortedAll_at s.heap its out.toArray
  have ly : ys.length ≤ sizeLine := by
    have := y2.length
    rw [List.length_mergeSort] at this
    omega
  exact ⟨.ref _, upd H (s.heap.objs.size + 1) (.lst ys), I.laid (t' := s.toks) (fun _ _ => PyProof.Rows.sortedAll_old) (Nat.le_succ _) ⟨ly, out, ep, y1, he'⟩, rfl, q ys _ y2 (I.hok.fresh (Nat.le_succ _))⟩
theorem w_sorted {X : Cx} {e : Expr} {t : TA} {p pos : Pos} {j : Nat} (K : PySem.W.Frag) (B : Bf X.mg) (hr : Room j X.A) (ha : PA X [e] t) (h : X.K = K := by rfl) (hg : Gl X "sorted" := by rfl) (he : starEach (e :: []) X.env = (false, eval e X.env) :: starEach [] X.env := by rfl) (hpl : (backTo pos (starEach [] X.env)).any (·.1) = false := by rfl) :
    PE X (.Call (.Name "sorted" p) [e] [] pos) (tCB (rSortD K) t) := h ▸ pe_callB (cr_sortD hr.units) hg B.sorted (by decide +kernel) ha (by decide) (by decide) he hpl
theorem en_sorted {Γ : Gam} {t : TA} {ρ : Rho} {K : PySem.W.Frag} {β : Type} {bs : List β} {enc : β → D} (ha : AvD Γ t ρ [.lst (bs.map enc)]) (hok : ∀ b ∈ bs, (enc b).ok = true) (hal : PySem.W.AllAlike (bs.map fun b => (enc b).py)) (hsk : PySem.W.Sortable (bs.map fun b => (enc b).py))
    (hdp : ∀ b ∈ bs, (enc b).py.depth ≤ 8) : EvN Γ (tCB (rSortD K) t) ρ (.lst ((bs.mergeSort (PySem.W.dataLe false fun b => (enc b).py)).map enc)) := fun σ S H s k Q qq =>
  ha σ S H s k _ fun vs S1 H1 n1 a => by
    cases a with
    | cons h tl =>
      cases tl
      cases h with
      | lst e al =>
        refine ⟨β, _, _, bs, fun b => (enc b).py, fun v b => b ∈ bs ∧ At S1 v (enc b), rfl, .of (n1.ok.ex _ _ e), each_imp (fun _ _ z => ⟨z.2, z.1⟩) (PySem.W.each_mem (each_at al)), fun v b z => (z.2.mono n1.ok.ex).dp (hok b z.1), hal, hsk, hdp, fun ys p hy hp => ?_⟩
        exact qq p S1 _ _ (n1.trans (.hid n1.ok hp _)) (live_of n1 hp) (n1.ok.fresh hp) upd_same (.lst (at_each (each_imp (fun _ _ z => z.2) hy)))
end CW
/-! P6 -/
/-! P6: crowds_of, all_pairs. -/
namespace CW
open PySem PySem.Spec PyProof.Rows L2 NdefX LamX
/-- a def whose code object is at c -/
theorem fn_okNC {P : Program} {w : World} {K : PySem.W.Frag} {mg : Str → Option Value} {base : Heap} {x qual : Str} {N ps : List Str} {k : Nat} {st : Stmt} {f c : Addr} {fd : FuncData} {Γ : Gam} {R : List D → D → Prop} (F : FnP K x qual st f fd) (hc : fd.code = .ref c) (S : FnScope N ps (defScope st))
    (hl : ∀ as d, R as d → as.length = ps.length)
    (hb : ∀ (A : Around) (outer : List Env) (s : Shared) (H : Hp) (E : XK), Room k (A.deeper (envOfC qual (defScope st) s.heap.objs.size f (.ref c))) → ∃ t, PSs (cxOf CX0 P w K mg base N qual (defScope st) f (.ref c) A outer s H E).nox (defBody st) t ∧
      ∀ as d, R as d → SvD Γ t (as.map some ++ List.replicate (N.length - as.length) none) [] (.rn d)) : FnOk P w K mg base CX0 (k + 1) f fd ps (spN Γ R) := by
  obtain ⟨oc, od, dV, kV, doc, pm, an, cdv, ct, osl, rfl, lk, hcd, _, _⟩ := F.ex
  obtain rfl : cdv = Value.ref c := hc
  refine fn_of lk hcd S (fun vs H Q E h => ?_) fun A outer s H vs Q E hr h => ?_
  · obtain ⟨as, d, S', _, al, r, _⟩ := h
    rw [al.length]; exact hl as d r
  · obtain ⟨t, ht, hv⟩ := hb A outer s H E hr
    obtain ⟨as, d, S', k', al, r, q⟩ := h
    refine ⟨t, ht.nox, ?_⟩
    have e : L2.start N vs = vs.map some ++ List.replicate (N.length - as.length) none := by unfold L2.start; rw [al.length]
    rw [e]
    exact hv as d r S' H S' S' H _ k' (.refl k') (Ex.refl _) (sl_start al) .nil _ fun p S2 H2 o n h0 hs ho a => q p S2 H2 o n h0 hs ho a
def posD (g : Gr) : D := .dic (g.ps.zipIdx.map fun p => (p.1, nI p.2))
def rCrowds (C : Addr) (as : List D) (d : D) : Prop := ∃ (g : Gr) (p : List Str), g.Ok ∧ as = [chartD C g] ∧ CT.peelingOf g.ps g.n = some p ∧ d = crD (CT.crowds g.ps g.n p)
def rowD (l : List Int) : D := .lst (l.map .int)
theorem py_rowD (l : List Int) : (rowD l).py = .list (l.map .int) := by
  unfold rowD
  rw [D.py, pyAll_map]
  simp only [D.py]
theorem ok_rowD (l : List Int) : (rowD l).ok = true := by unfold rowD; rw [D.ok]; exact okAll_map fun x _ => by simp only [D.ok]
theorem row_alike {β : Type} (x : β → List Int) (bs : List β) : PySem.W.AllAlike (bs.map fun b => (rowD (x b)).py) := PySem.W.AllAlike.of (enc := fun b => (rowD (x b)).py) fun b b' => by
  simp only [py_rowD, PySem.W.alike]; exact PySem.W.alike_ints _ _
theorem row_sortable {β : Type} (x : β → List Int) (bs : List β) : PySem.W.Sortable (bs.map fun b => (rowD (x b)).py) := PySem.W.Sortable.others fun b => by
  rw [py_rowD]; exact ⟨nofun, nofun⟩
theorem row_depth (l : List Int) : (rowD l).py.depth ≤ 8 := by
  rw [py_rowD, PyData.depth, PySem.W.depth_ints]; decide
theorem row_le {β : Type} (x : β → List Int) : (PySem.W.dataLe false fun b => (rowD (x b)).py) = fun p q => decide (x p ≤ x q) := by
  rw [← PySem.W.dataLe_rows]
  congr 1
  funext b
  exact py_rowD _
theorem peeling_perm {g : Gr} (hg : g.Ok) {p : List Str} (h : CT.peelingOf g.ps g.n = some p) : p.Perm g.ps := by
  unfold CT.peelingOf at h
  split at h
  · cases h
    have := (CT.peelIt_inv (n := g.n) hg.nd g.ps.length).1
    rename_i e
    rw [show (CT.peelIt g.ps g.n g.ps.length).2 = [] from e, List.append_nil] at this
    exact this
  · cases h
theorem sv_toRn {Γ : Gam} {t : TS} {ρ : Rho} {μ : Mus} {d d2 : D} (h : SvD Γ t ρ μ (.rn d)) (e : d = d2) : SvD Γ t ρ μ (.rn d2) := e ▸ h
section
variable {P : Program} {w : World} {K : PySem.W.Frag} {mg : Str → Option Value} {base : Heap} {C : Addr} {f c Pt : Addr} {fd : FuncData} {Γ : Gam} {Ts : List (Addr × Str)}
abbrev qCrowds : Str := (envOfC "crowds_of" (defScope (topS 35)) 0 0 .none).qual ++ "<lambda>"
theorem sc_crowds_of : FnScope ["chart", "numbers", "some", "found", "crowd", "place", "post", "later"] ["chart"] (defScope (topS 35)) := ⟨rfl, rfl, rfl, by decide +kernel, rfl, by decide +kernel, by decide +kernel⟩
theorem ok_crowds_of (T : Kx K mg C) (F : FnP K "crowds_of" "crowds_of" (topS 35) f fd) (hc : fd.code = .ref c) (TB : TabB base mg c Pt) (hT : (Pt, qCrowds) ∈ Ts) (hu : ∀ p ∈ Ts, p.1 = Pt → p.2 = qCrowds) (L : LamOk Γ Ts Pt)
    (Gneed_good : Has P w K mg base "need_good" ["chart"] 10 (spF G0 (rNeedGood C))) (Mposts : HasM P w K mg base C "posts" ["self"] 1 (spN G0 (rPosts C))) (Gordered : Has P w K mg base "ordered" ["chart", "posts"] 2 (spF G0 (rOrdered C)))
    (Glater_near : Has P w K mg base "later_near" ["chart", "peeling"] 7 (spF G0 (rLater C))) (Gpeeling_of : Has P w K mg base "peeling_of" ["chart"] 9 (spF G0 (rPeelingOf C))) (Gis_crowd : Has P w K mg base "is_crowd" ["chart", "value"] 6 (spF G0 (rIsCrowd C))) :
    FnOk P w K mg base CX0 11 f fd ["chart"] (spN Γ (rCrowds C)) := by
  have nd := (sc_crowds_of).nd
  have B := T.b
  have cl := T.cl
  refine fn_okNC F hc sc_crowds_of (fun as d ⟨g, _, _, e, _⟩ => by rw [e]; rfl) fun A outer s H E hr => ?_
  have hu0 := hu_of hr
  have nd2 : (["crowd", "numbers", "post"] : List Str).Nodup := by decide +kernel
  refine ⟨_, (pss_cons (ps_expr (pe_h Gneed_good hr (pa_cons (pv 0) pa_nil)))
    (pss_cons (ps_set (i := 1) nd rfl (Or.inr rfl) (pe_dc (own := [("place", 5), ("post", 6)]) rfl nd (pi_enum (by rfl) B.enumerate (pa_cons (pe_hm0 Mposts cl hr (pv 0)) pa_nil)) (blkOk_by (by kernel_rfl)) (fun _ _ _ _ _ => (w_gtup K 2 (pgs_cons (pg_name (i := 5) nd rfl (Or.inl rfl)) (pgs_cons (pg_name (i := 6) nd rfl (Or.inl rfl)) pgs_nil)))) (fun _ _ _ _ _ => pts_nil) (fun _ _ _ _ _ => (pv 6)) (fun _ _ _ _ _ => (pv 5))))
    (pss_cons (ps_setLc (i := 2) (own := [("post", 6), ("later", 7)]) rfl nd rfl rfl (sw_true rfl rfl rfl (by decide +kernel)) (w_piL K (pe_h Glater_near hr (pa_cons (pv 0) (pa_cons (pe_h Gpeeling_of hr (pa_cons (pv 0) pa_nil)) pa_nil)))) (blkOk_by (by kernel_rfl)) (fun _ _ _ _ _ => (w_gtup K 2 (pgs_cons (pg_name (i := 6) nd rfl (Or.inl rfl)) (pgs_cons (pg_name (i := 7) nd rfl (Or.inl rfl)) pgs_nil)))) (fun _ _ _ _ _ => pts_nil) (fun _ _ _ _ _ => (pe_h Gordered hr (pa_cons (pv 0) (pa_cons (pe_tup (pa_cons (pv 6) (w_star K (pv 7) pa_nil))) pa_nil)))))
    (pss_cons (ps_setLc (i := 3) (own := [("crowd", 4)]) rfl nd rfl rfl (sw_true rfl rfl rfl (by decide +kernel)) (w_piL K (pv 2)) (blkOk_by (by kernel_rfl)) (fun _ _ _ _ _ => (pg_name (i := 4) nd rfl (Or.inl rfl))) (fun _ _ _ _ _ => pts_one (pt_val (pe_h Gis_crowd hr (pa_cons (pv 0) (pa_cons (pv 4) pa_nil))))) (fun _ _ _ _ _ => (pv 4)))
    (pss_one (ps_ret (pe_sortL (k := 7) (y := "crowd") (N := ["crowd", "numbers", "post"]) (fr := ["numbers"]) (js := [1]) K B.sorted TB hT hu hr (pa_cons (pv 3) pa_nil) (nscope_by (by kernel_rfl)) (fun ok => Caps.made ok (ndef_free (fr := ["numbers"]) (by kernel_rfl)) (ndef_fr (sc := defScope (topS 35)) (by kernel_rfl)) rfl) (fun ok z hz e => ok.has _ (ndef_free (fr := ["numbers"]) (by kernel_rfl) z hz e)) (fun _ _ _ _ _ _ => rfl)
      (fun A2 s2 H2 E2 f2 c2 cl2 hr2 => (pe_lc (own := [("post", 2)]) rfl nd2 (w_piT K (pv 0)) (blkOk_by (by kernel_rfl)) (fun _ _ _ _ _ => (pg_name (i := 2) nd2 rfl (Or.inl rfl))) (fun _ _ _ _ _ => pts_nil) (fun _ _ _ _ _ => (pe_dget (hu_of hr2) (pv 1) (pv 2) (fun _ _ => rfl))))) rfl))))))), ?_⟩
  rintro as d ⟨g, p, hg, rfl, hp, rfl⟩
  have pp := peeling_perm hg hp
  have psub : ∀ x ∈ p, x ∈ g.ps := fun x hx => pp.mem_iff.mp hx
  have plen : p.length ≤ 16 := by rw [pp.length_eq]; exact hg.sz
  have hs := hg.sz
  have llen : (CT.laterNear g.ps g.n p).length ≤ 16 := by unfold CT.laterNear; rw [List.length_map, List.length_zipIdx]; exact plen
  have rlen : (CT.crowdsRaw g.ps g.n p).length ≤ 16 := Nat.le_trans (List.length_filter_le _ _) (by rw [List.length_map]; exact llen)
  have zl : ∀ q ∈ CT.laterNear g.ps g.n p, q.2.length ≤ 16 := fun q hq => by
    obtain ⟨z, _, rfl⟩ := List.mem_map.mp hq
    exact left_len hg
  refine sv_seq (sv_drop (ev_call0 (av_cons (ev_var rfl) av_nil) ⟨g, hg, rfl, by rw [hp]; exact nofun, rfl⟩))
    (sv_seq (sv_asg (EvN.ev (ev_dc (xs := g.ps.zipIdx) (kx := fun q => q.1) (h := fun q => nI q.2) (wv_enumL (av_cons (EvN.ev (en_meth0 (ev_var rfl) rfl av_nil ⟨g, hg, rfl, rfl⟩)) av_nil)) ?_ (fun q hq => ⟨_, gv_tup (gs_cons (gv_name (by decide)) (gs_cons (gv_name (by decide)) gs_nil)), ev_var rfl, ev_var rfl⟩) ?_)))
    (sv_seq (sv_asg (EvN.ev (ev_lcE0N (enc2 := tS) (xs := CT.laterNear g.ps g.n p) (q := fun q => CT.ord g.ps (q.1 :: q.2)) (wv_list (ev_call0 (av_cons (ev_var rfl) (av_cons (ev_call0 (av_cons (ev_var rfl) av_nil) ⟨g, hg, rfl, rfl⟩) av_nil)) ⟨g, p, hg, by rw [hp]; rfl, psub, by omega, rfl⟩))
      (fun q hq => ⟨_, gv_tup (gs_cons (gv_name (by decide)) (gs_cons (gv_name (by decide)) gs_nil)), ev_call0 (av_cons (ev_var rfl) (av_cons (ev_tup (av_cons (ev_var rfl) (av_starT (ev_var rfl) av_nil)) ?_) av_nil)) ⟨g, q.1 :: q.2, hg, by rw [List.append_nil]; rfl, rfl⟩⟩) (by omega))))
    (sv_seq (sv_asg (EvN.ev (ev_lcF (enc := tS) (f := fun c => CT.isCrowd g.ps g.n c) (wv_list (ev_var rfl)) (fun c hc => ⟨_, gv_name (by decide), tv_B (ev_call0 (av_cons (ev_var rfl) (av_cons (ev_var rfl) av_nil)) ⟨g, c, hg, rfl, ?_, rfl⟩), fun _ => ev_var rfl⟩) (by rw [List.length_map]; omega))))
    (sv_toRn (sv_retE (en_sortL (kd := fun c => rowD (CT.posI g.ps c)) (enc := tS) (bs := CT.crowdsRaw g.ps g.n p) L (ev_var rfl) rfl (fun c hc => ?_) (fun c _ => ok_rowD _) (row_alike _ _) (row_sortable _ _) (fun c _ => row_depth _))) ?_))))
  · rw [show g.ps.zipIdx.map (fun q => q.1) = g.ps from by simp]; exact hg.nd
  · rw [List.length_zipIdx]; omega
  · have := zl q hq
    refine Nat.ble_eq.mpr ?_
    have e : (sS q.2 ++ []).length = q.2.length := by rw [List.append_nil, List.length_map]
    exact Nat.succ_le_of_lt (Nat.lt_of_le_of_lt (Nat.le_trans (Nat.le_of_eq e) this) (by decide))
  · obtain ⟨q, _, rfl⟩ := List.mem_map.mp hc
    exact ord_ord.symm
  · have hcp : ∀ x ∈ c, x ∈ g.ps := by
      obtain ⟨q, _, rfl⟩ := List.mem_map.mp (List.mem_filter.mp hc).1
      exact ord_sub
    have cl : c.length ≤ 16 := by
      obtain ⟨q, _, rfl⟩ := List.mem_map.mp (List.mem_filter.mp hc).1
      exact ord_len hg
    refine EvD.is (EvN.ev (ev_lc0N (xs := c) (enc := .str) (h := fun x => nI (g.ps.idxOf x)) (wv_tup (ev_var rfl)) (fun x hx => ⟨_, gv_name (by decide), ev_dget (ev_var rfl) (ev_var rfl) ?_⟩) (by omega))) ?_
    · have := CT.idx_look nI g.ps 0 (hcp x hx)
      rw [Nat.zero_add] at this
      exact this
    · unfold rowD CT.posI; rw [List.map_map]; rfl
  · rw [row_le]; rfl
end
end CW
/-! P7 -/
/-! P7: all_pairs, crowd_tree_of, judge_crowd_tree. -/
namespace CW
open PySem PySem.Spec PyProof.Rows L2 NdefX LamX
def rAllPairs (as : List D) (d : D) : Prop := ∃ cs : List (List Str), CrOk cs ∧ as = [crD cs] ∧ d = .lst ((CT.allPairs cs).map prD)
def rTree (C : Addr) (as : List D) (d : D) : Prop := ∃ (g : Gr) (p : List Str), g.Ok ∧ as = [chartD C g] ∧ CT.peelingOf g.ps g.n = some p ∧ d = .lst ((CT.tree (CT.crowds g.ps g.n p)).map prD)
/-- the judge, where the value's pairs are pairs of places of crowds -/
def judgeB (g : Gr) (ps : List CT.Pr) : Bool := match CT.peelingOf g.ps g.n with
  | none => false
  | some p => match CT.judge (CT.crowds g.ps g.n p) ps with
    | none => false
    | some s => decide (s.2 + g.ps.length = ((CT.crowds g.ps g.n p).map List.length).sum)
def rJudge (C : Addr) (as : List D) (d : D) : Prop := ∃ (g : Gr) (ps : List CT.Pr), g.Ok ∧ (as = [chartD C g, .lst (ps.map prD)] ∨ (as = [chartD C g, .tup []] ∧ ps = [])) ∧ (∀ p, CT.peelingOf g.ps g.n = some p → ∀ q ∈ ps, CT.PrOk (CT.crowds g.ps g.n p).length q) ∧ d = .bl (judgeB g ps)
theorem rng_len : ∀ m : Fin 17, ((List.range m.1).flatMap fun o => List.range o).length ≤ 90000 := by decide +kernel
theorem pairs_len : ∀ m : Fin 17, (CT.pairs0 m.1).length ≤ 200 := by decide +kernel
theorem prI_row (cs : List (List Str)) (p : CT.Pr) : (rowD (CT.pKey cs p)) = .lst [.int (-(CT.cm cs p : Int)), nI p.1, nI p.2] := rfl
theorem row_leT {β : Type} (x : β → List Int) : PySem.W.dataLe false (fun b => PyData.tuple ((x b).map .int)) = fun p q => decide (x p ≤ x q) := by
  rw [← PySem.W.dataLe_rows]
  funext p q
  show (!PySem.W.dataLt (.tuple ((x q).map .int)) (.tuple ((x p).map .int))) = !PySem.W.dataLt (.list ((x q).map .int)) (.list ((x p).map .int))
  rw [PySem.W.dataLt_tuple, PySem.W.dataLt_list]
def rowT (l : List Int) : D := .tup (l.map .int)
theorem py_rowT (l : List Int) : (rowT l).py = .tuple (l.map .int) := by
  unfold rowT
  rw [D.py, pyAll_map]
  simp only [D.py]
theorem ok_rowT (l : List Int) : (rowT l).ok = true := by unfold rowT; rw [D.ok]; exact okAll_map fun x _ => by simp only [D.ok]
theorem row_alikeT {β : Type} (x : β → List Int) (bs : List β) : PySem.W.AllAlike (bs.map fun b => (rowT (x b)).py) := PySem.W.AllAlike.of (enc := fun b => (rowT (x b)).py) fun b b' => by
  simp only [py_rowT, PySem.W.alike]; exact PySem.W.alike_ints _ _
theorem row_sortableT {β : Type} (x : β → List Int) (bs : List β) (h : ∀ b ∈ bs, x b ≠ []) : PySem.W.Sortable (bs.map fun b => (rowT (x b)).py) := .inl fun d hd => by
  obtain ⟨b, hb, rfl⟩ := List.mem_map.mp hd
  rw [py_rowT]
  cases e : x b with
  | nil => exact absurd e (h b hb)
  | cons y r => exact ⟨_, _, rfl⟩
theorem row_depthT (l : List Int) : (rowT l).py.depth ≤ 8 := by
  rw [py_rowT, PyData.depth, PySem.W.depth_ints]; decide
theorem row_leT2 {β : Type} (x : β → List Int) : (PySem.W.dataLe false fun b => (rowT (x b)).py) = fun p q => decide (x p ≤ x q) := by
  rw [← row_leT]
  congr 1
  funext b
  exact py_rowT _
theorem sv_retEF {Γ : Gam} {ρ : Rho} {μ : Mus} {te : TE} {d : D} (he : EvN Γ te (frz ρ μ) d) : SvD Γ (tRet te) ρ μ (.rn d) := fun S0 H0 F S H σ k0 n f s m Dn q => by
  obtain ⟨S', n', e', s', _⟩ := m.frz k0 n s
  exact he σ S' H s' n'.ok _ fun p S2 H2 o n2 hp hs ho a => q p S2 H2 o (n'.trans n2) (live_of n hp) hs ho a
/-- a fold that may fail, turn by turn -/
theorem opt_kk {σ β : Type} (g : Option σ → β → Option σ) (hn : ∀ x, g none x = none) : ∀ (ps : List β) (s0 : σ), (∃ s : Nat → σ, s 0 = s0 ∧ (∀ j x, ps[j]? = some x → g (some (s j)) x = some (s (j + 1))) ∧ ps.foldl g (some s0) = some (s ps.length)) ∨
    (∃ (kk : Nat) (x : β) (s : Nat → σ), ps[kk]? = some x ∧ s 0 = s0 ∧ (∀ j y, j < kk → ps[j]? = some y → g (some (s j)) y = some (s (j + 1))) ∧ g (some (s kk)) x = none ∧ ps.foldl g (some s0) = none)
  | [], s0 => .inl ⟨fun _ => s0, rfl, ⟨fun j x h => absurd h (by simp), rfl⟩⟩
  | p :: ps, s0 => by
    cases e : g (some s0) p with
    | none =>
      refine .inr ⟨0, p, fun _ => s0, rfl, rfl, fun j y hj => absurd hj (Nat.not_lt_zero j), e, ?_⟩
      rw [List.foldl_cons, e]
      have : ∀ l : List β, l.foldl g none = none := fun l => by
        induction l with
        | nil => rfl
        | cons y l ih => rw [List.foldl_cons, hn]; exact ih
      exact this ps
    | some s1 =>
      rcases opt_kk g hn ps s1 with ⟨s, h0, h1, h2⟩ | ⟨kk, x, s, hx, h0, h1, h2, h3⟩
      · refine .inl ⟨fun j => match j with | 0 => s0 | j + 1 => s j, rfl, fun j x hx => ?_, by rw [List.foldl_cons, e]; exact h2⟩
        cases j with
        | zero => cases hx; rw [e, ← h0]
        | succ j => exact h1 j x hx
      · refine .inr ⟨kk + 1, x, fun j => match j with | 0 => s0 | j + 1 => s j, hx, rfl, fun j y hj hy => ?_, h2, by rw [List.foldl_cons, e]; exact h3⟩
        cases j with
        | zero => cases hy; rw [e, ← h0]
        | succ j => exact h1 j y (Nat.lt_of_succ_lt_succ hj) hy
theorem k_len (m : Nat) (ps : List CT.Pr) : (CT.kruskal m ps).2.length = m ∧ (CT.kruskal m ps).1.length ≤ ps.length := by
  have key : ∀ (ps : List CT.Pr) (s : List CT.Pr × List Nat), (ps.foldl CT.kStep s).2.length = s.2.length ∧ (ps.foldl CT.kStep s).1.length ≤ s.1.length + ps.length := fun ps => by
    induction ps with
    | nil => exact fun s => ⟨rfl, Nat.le_refl _⟩
    | cons p ps ih =>
      intro s
      rw [List.foldl_cons]
      have := ih (CT.kStep s p)
      have h2 : (CT.kStep s p).2.length = s.2.length ∧ (CT.kStep s p).1.length ≤ s.1.length + 1 := by
        unfold CT.kStep
        split
        · exact ⟨rfl, Nat.le_succ _⟩
        · exact ⟨CT.tie_length _ _, by simp⟩
      rw [List.length_cons]
      omega
  have := key ps ([], List.range m)
  unfold CT.kruskal
  simpa using this
section
variable {P : Program} {w : World} {K : PySem.W.Frag} {mg : Str → Option Value} {base : Heap} {C : Addr} {f c Pt : Addr} {fd : FuncData} {Γ : Gam} {Ts : List (Addr × Str)}
abbrev qPairs : Str := (envOfC "all_pairs" (defScope (topS 38)) 0 0 .none).qual ++ "<lambda>"
theorem sc_all_pairs : FnScope ["crowds", "numbers", "pairs", "other", "one", "pair"] ["crowds"] (defScope (topS 38)) := ⟨rfl, rfl, rfl, by decide +kernel, rfl, by decide +kernel, by decide +kernel⟩
theorem ok_all_pairs (T : Kx K mg C) (F : FnP K "all_pairs" "all_pairs" (topS 38) f fd) (hc : fd.code = .ref c) (TB : TabB base mg c Pt) (hT : (Pt, qPairs) ∈ Ts) (hu : ∀ p ∈ Ts, p.1 = Pt → p.2 = qPairs) (L : LamOk Γ Ts Pt)
    (Gcommon_many : Has P w K mg base "common_many" ["crowds", "pair"] 1 (spF G0 rCommon)) : FnOk P w K mg base CX0 6 f fd ["crowds"] (spN Γ rAllPairs) := by
  have nd := (sc_all_pairs).nd
  have B := T.b
  refine fn_okNC F hc sc_all_pairs (fun as d ⟨cs, _, e, _⟩ => by rw [e]; rfl) fun A outer s H E hr => ?_
  have hu0 := hu_of hr
  have nd2 : (["pair", "crowds"] : List Str).Nodup := by decide +kernel
  refine ⟨_, (pss_cons (ps_set (i := 1) nd rfl (Or.inl rfl) (pe_callTy cr_range1 (by rfl) B.range (by decide +kernel) (pa_cons (w_len K B (pa_cons (pv 0) pa_nil)) pa_nil)))
    (pss_cons (ps_setLc2 (i := 2) (own := [("other", 3), ("one", 4)]) rfl nd rfl rfl (sw_true rfl rfl rfl (by decide +kernel)) (pi_rngV (pv 1)) (blkOk_by (by kernel_rfl)) (vs1 := [4]) (by decide) (fun _ _ _ _ _ => (pg_name (i := 3) nd rfl (Or.inl rfl))) (fun _ _ _ _ _ => pts_nil) (fun _ _ _ _ _ => (pi_range1 rfl B.range (pa_cons (pv 3) pa_nil))) (fun _ _ _ _ _ => (pg_name (i := 4) nd rfl (Or.inl rfl))) (fun _ _ _ _ _ => pts_nil) (fun _ _ _ _ _ => (pe_tup (pa_cons (pv 4) (pa_cons (pv 3) pa_nil)))))
    (pss_cons (ps_setLc (i := 2) (own := [("pair", 5)]) rfl nd rfl rfl (sw_true rfl rfl rfl (by decide +kernel)) (w_piL K (pv 2)) (blkOk_by (by kernel_rfl)) (fun _ _ _ _ _ => (pg_name (i := 5) nd rfl (Or.inl rfl))) (fun _ _ _ _ _ => pts_one (pt_cmpR op_gt (pe_h Gcommon_many hr (pa_cons (pv 0) (pa_cons (pv 5) pa_nil))) pe_int (nomark _))) (fun _ _ _ _ _ => (pv 5)))
    (pss_one (ps_ret (pe_sortL (k := 2) (y := "pair") (N := ["pair", "crowds"]) (fr := ["crowds"]) (js := [0]) K B.sorted TB hT hu hr (pa_cons (pv 2) pa_nil) (nscope_by (by kernel_rfl)) (fun ok => Caps.made ok (ndef_free (fr := ["crowds"]) (by kernel_rfl)) (ndef_fr (sc := defScope (topS 38)) (by kernel_rfl)) rfl) (fun ok z hz e => ok.has _ (ndef_free (fr := ["crowds"]) (by kernel_rfl) z hz e)) (fun _ _ _ _ _ _ => rfl)
      (fun A2 s2 H2 E2 f2 c2 cl2 hr2 => (pe_lst (pa_cons (pe_un un_neg (pe_h Gcommon_many hr2 (pa_cons (pv 1) (pa_cons (pv 0) pa_nil)))) (w_star K (pv 0) pa_nil)))) rfl)))))), ?_⟩
  rintro as d ⟨cs, hcs, rfl, rfl⟩
  have hm := hcs.sz
  have l0 := rng_len ⟨cs.length, by omega⟩
  have l1 := pairs_len ⟨cs.length, by omega⟩
  refine sv_seq (sv_asg (ev_cb (av_cons (ev_cb (av_cons (ev_var rfl) av_nil) ra_len) av_nil) ra_range1))
    (sv_seq (sv_asg (EvN.ev (ev_lc2 (xs := List.range cs.length) (enc := nI) (ys := fun o => List.range o) (enc1 := nI) (h := fun o k => prD (k, o)) (M := 0) (wv_rngV (n := cs.length) (EvD.is (ev_var rfl) (by rw [List.length_map])) (by omega)) (fun o ho => ⟨_, gv_name (by decide), wv_rng1 (av_cons (ev_var rfl) av_nil) (by have := List.mem_range.mp ho; omega), fun k hk => ⟨_, gv_name (by decide), ev_tup (av_cons (ev_var rfl) (av_cons (ev_var rfl) av_nil))⟩⟩) (by decide) l0)))
    (sv_seq (sv_asg (EvN.ev (ev_lcF (xs := CT.pairs0 cs.length) (enc := prD) (f := fun p => decide (0 < CT.cm cs p)) (wv_list (EvD.is (ev_var rfl) (by unfold CT.pairs0; rw [List.map_flatMap]; simp only [List.map_map]; rfl))) (fun p hp => ⟨_, gv_name (by decide), tv_test (EvD.is (ev_op (ev_call0 (av_cons (ev_var rfl) (av_cons (ev_var rfl) av_nil)) ⟨cs, p, hcs, rfl, CT.mem_pairs0.mp hp, rfl⟩) ev_int rd_gt) ?_), fun _ => ev_var rfl⟩) (Nat.le_trans l1 (by decide)))))
    (sv_toRn (sv_retE (en_sortL (kd := fun p => rowD (CT.pKey cs p)) (enc := prD) (bs := CT.pairs1 cs) L (ev_var rfl) rfl (fun p hp => ?_) (fun c _ => ok_rowD _) (row_alike _ _) (row_sortable _ _) (fun c _ => row_depth _))) ?_)))
  · exact congrArg D.bl (decide_eq_decide.mpr (by omega))
  · have hp0 := CT.mem_pairs0.mp (List.mem_filter.mp hp).1
    exact EvD.is (ev_lst (av_cons (ev_un (ev_call0 (av_cons (ev_var rfl) (av_cons (ev_var rfl) av_nil)) ⟨cs, p, hcs, rfl, hp0, rfl⟩) ru_neg) (av_starT (ev_var rfl) av_nil)) (by rfl)) rfl
  · rw [row_le]; rfl
theorem cr_ok {g : Gr} (hg : g.Ok) {p : List Str} (h : CT.peelingOf g.ps g.n = some p) : CrOk (CT.crowds g.ps g.n p) := by
  have pp := peeling_perm hg h
  have hs := hg.sz
  refine ⟨?_, fun c hc => ?_⟩
  · unfold CT.crowds
    rw [List.length_mergeSort]
    refine Nat.le_trans (List.length_filter_le _ _) ?_
    rw [List.length_map]
    unfold CT.laterNear
    rw [List.length_map, List.length_zipIdx, pp.length_eq]
    exact hs
  · unfold CT.crowds at hc
    rw [List.mem_mergeSort] at hc
    obtain ⟨q, _, rfl⟩ := List.mem_map.mp (List.mem_filter.mp hc).1
    exact ord_len hg
theorem pairs_ok {cs : List (List Str)} {p : CT.Pr} (h : p ∈ CT.allPairs cs) : CT.PrOk cs.length p := by
  unfold CT.allPairs at h
  rw [List.mem_mergeSort] at h
  exact CT.mem_pairs0.mp (List.mem_filter.mp h).1
theorem pairs_len2 {cs : List (List Str)} (h : CrOk cs) : (CT.allPairs cs).length ≤ 200 := by
  unfold CT.allPairs
  rw [List.length_mergeSort]
  have := h.sz
  exact Nat.le_trans (List.length_filter_le _ _) (pairs_len ⟨cs.length, by omega⟩)
theorem ev_lotAt {Γ : Gam} {ρ : Rho} {l : List Nat} {p : CT.Pr} {i j : Nat} {K : PySem.W.Frag} {a b : Int} (hl : ρ[i]? = some (some (loD l))) (hp : ρ[j]? = some (some (prD p))) (h : CT.PrOk l.length p) :
    EvD Γ (tOp (rIxL K) (tVar i) (tOp (rIxT K) (tVar j) (tC (.int 0)))) ρ (nI (l.getD p.1 0)) ∧ EvD Γ (tOp (rIxL K) (tVar i) (tOp (rIxT K) (tVar j) (tC (.int 1)))) ρ (nI (l.getD p.2 0)) :=
  ⟨ev_op (ev_var hl) (ev_op (ev_var hp) ev_int (rd_ixT (n := 0) rfl rfl)) (rd_ixL (n := p.1) rfl (getD_map l nI p.1 0 (Nat.lt_trans h.1 h.2))), ev_op (ev_var hl) (ev_op (ev_var hp) ev_int (rd_ixT (n := 1) rfl rfl)) (rd_ixL (n := p.2) rfl (getD_map l nI p.2 0 h.2))⟩
theorem sc_crowd_tree_of : FnScope ["chart", "lots", "pair", "crowds", "found"] ["chart"] (defScope (topS 40)) := ⟨rfl, rfl, rfl, by decide +kernel, rfl, by decide +kernel, by decide +kernel⟩
theorem ok_crowd_tree_of (T : Kx K mg C) (F : FnP K "crowd_tree_of" "crowd_tree_of" (topS 40) f fd) (Gcrowds_of : Has P w K mg base "crowds_of" ["chart"] 11 (spN Γ (rCrowds C))) (Gall_pairs : Has P w K mg base "all_pairs" ["crowds"] 6 (spN Γ rAllPairs))
    (Gtied_lots : Has P w K mg base "tied_lots" ["lots", "pair"] 1 (spF G0 rTiedLots)) : FnOk P w K mg base CX0 12 f fd ["chart"] (spN Γ (rTree C)) := by
  have nd := (sc_crowd_tree_of).nd
  have B := T.b
  refine fn_okN F sc_crowd_tree_of (fun as d ⟨g, _, _, e, _⟩ => by rw [e]; rfl) fun cdv A outer s H E hr => ?_
  refine ⟨_, (pss_cons (ps_par (i := 3) (j := 4) rfl nd rfl rfl (by decide) rfl rfl (pa_cons (pe_h Gcrowds_of hr (pa_cons (pv 0) pa_nil)) (pa_cons (pe_lst pa_nil) pa_nil)) rfl)
    (pss_cons (ps_set (i := 1) nd rfl (Or.inl rfl) (pe_listRg rfl (by rfl) B.list (prg_1 (by rfl) B.range (w_len K B (pa_cons (pv 3) pa_nil)))))
    (pss_cons (ps_for PassesOwn.never rfl (w_piL K (pe_h Gall_pairs hr (pa_cons (pv 3) pa_nil))) (pg_name (i := 2) nd rfl (Or.inl rfl))
    (pss_one (ps_if (pt_cmpR op_ne (pe_ix (w_ixL K) (pv 1) (pe_ix (w_ixT K) (pv 2) pe_int (fun _ _ => rfl)) (fun _ _ => rfl)) (pe_ix (w_ixL K) (pv 1) (pe_ix (w_ixT K) (pv 2) pe_int (fun _ _ => rfl)) (fun _ _ => rfl)) (nomark _)) (pss_cons (ps_expr (pe_bm PySem.F.plainAttrs_list PySem.F.slot_list_append PySem.F.type_list_append mt_append (pv 4) (pa_cons (pv 2) pa_nil)))
    (pss_one (ps_set (i := 1) nd rfl (Or.inl rfl) (pe_h Gtied_lots hr (pa_cons (pv 1) (pa_cons (pv 2) pa_nil)))))) pss_nil)))
    (pss_one (ps_ret (w_sorted K B hr (pa_cons (pv 4) pa_nil))))))), ?_⟩
  rintro as d ⟨g, p, hg, rfl, hp, rfl⟩
  have co := cr_ok hg hp
  obtain ⟨cs, hcs⟩ : ∃ cs, cs = CT.crowds g.ps g.n p := ⟨_, rfl⟩
  rw [← hcs] at co ⊢
  have l2 := pairs_len2 co
  have hm := co.sz
  have kl := fun j => k_len cs.length ((CT.allPairs cs).take j)
  have el : EvD Γ _ _ (crD cs) := EvN.ev (en_call (Γ := Γ) (E := E0) (ρ := [some (chartD C g), none, none, none, none]) (R := rCrowds C) (av_cons (ev_var (i := 0) rfl) av_nil) ⟨g, p, hg, rfl, hp, by rw [hcs]⟩)
  refine sv_seq (sv_par_in el (en_lst av_nil))
    (sv_seq (sv_asg (EvN.ev (en_listRg (n := cs.length) (EvD.is (ev_cb (av_cons (ev_var rfl) av_nil) ra_len) (by rw [List.length_map])) (by omega))))
    (sv_seq (sv_for (vs := [2]) (xs := CT.allPairs cs) (enc := prD) (wv_list (EvN.ev (en_call (av_cons (ev_var rfl) av_nil) ⟨cs, co, rfl, rfl⟩)))
      (fun j => ([some (chartD C g), some (loD (CT.kruskal cs.length ((CT.allPairs cs).take j)).2), none, some (crD cs), none], [(4, .lst ((CT.kruskal cs.length ((CT.allPairs cs).take j)).1.map prD))])) (CT.allPairs cs).length rfl (Nat.le_refl _) (fun j x hj hx => ?_) (.inl ⟨rfl, rfl⟩))
    (sv_toRn (sv_retEF (en_sorted (bs := (CT.kruskal cs.length ((CT.allPairs cs).take (CT.allPairs cs).length)).1) (enc := prD) (av_cons (ev_var rfl) av_nil) (fun p _ => ok_rowT (CT.prI p)) (row_alikeT CT.prI _) (row_sortableT CT.prI _ (fun b _ => nofun)) (fun p _ => row_depthT (CT.prI p)))) ?_)))
  · have hxo := pairs_ok (List.mem_of_getElem? hx)
    have hlo : CT.PrOk (CT.kruskal cs.length ((CT.allPairs cs).take j)).2.length x := by rw [(kl j).1]; exact hxo
    have e1 : CT.kruskal cs.length ((CT.allPairs cs).take (j + 1)) = CT.kStep (CT.kruskal cs.length ((CT.allPairs cs).take j)) x := foldl_take hx
    have sz : (CT.kruskal cs.length ((CT.allPairs cs).take j)).1.length ≤ 200 := Nat.le_trans (kl j).2 (Nat.le_trans (List.length_take_le' _ _) l2)
    by_cases q : (CT.kruskal cs.length ((CT.allPairs cs).take j)).2.getD x.1 0 = (CT.kruskal cs.length ((CT.allPairs cs).take j)).2.getD x.2 0
    · refine ⟨_, [some (chartD C g), some (loD (CT.kruskal cs.length ((CT.allPairs cs).take j)).2), some (prD x), some (crD cs), none], gv_name (by decide), fun l hl => by rw [List.mem_singleton.mp hl]; rfl, .inl ?_, by rw [e1, show CT.kStep _ x = _ from if_pos q]; rfl⟩
      rw [e1, show CT.kStep _ x = _ from if_pos q]
      exact sv_if (k := false) (tv_test (EvD.is (ev_op (ev_lotAt (a := 0) (b := 0) rfl rfl hlo).1 (ev_lotAt (a := 0) (b := 0) rfl rfl hlo).2 rd_neI) (by rw [nI_eq, decide_eq_true q]; rfl))) (fun h => by cases h) fun _ => sv_next
    · refine ⟨_, [some (chartD C g), some (loD (CT.tie (CT.kruskal cs.length ((CT.allPairs cs).take j)).2 x)), some (prD x), some (crD cs), none], gv_name (by decide), fun l hl => by rw [List.mem_singleton.mp hl]; rfl, .inl ?_, by rw [e1, show CT.kStep _ x = _ from if_neg q]; rfl⟩
      rw [e1, show CT.kStep _ x = _ from if_neg q]
      refine sv_if (k := true) (tv_test (EvD.is (ev_op (ev_lotAt (a := 0) (b := 0) rfl rfl hlo).1 (ev_lotAt (a := 0) (b := 0) rfl rfl hlo).2 rd_neI) (by rw [nI_eq, decide_eq_false q]; rfl))) (fun _ => sv_toN [] (sv_seq (sv_app (i := 4) rfl (ev_var rfl) (by rw [List.length_map]; omega))
        (sv_asg (ev_call0 (av_cons (ev_var rfl) (av_cons (ev_var rfl) av_nil)) ⟨_, x, rfl, hlo, by rw [(kl j).1]; omega, rfl⟩))) rfl ?_) (fun h => by cases h)
      show [(4, D.lst _)] = [(4, D.lst _)]
      rw [List.map_append]; rfl
  · rw [List.take_of_length_le (Nat.le_refl _)]
    show D.lst (List.map prD (List.mergeSort _ (PySem.W.dataLe false fun b => (rowT (CT.prI b)).py))) = _
    rw [row_leT2]; rfl
theorem sum_nat (xs : List Nat) : (xs.map fun k : Nat => (k : Int)).sum = (xs.sum : Nat) := by
  induction xs with
  | nil => rfl
  | cons x xs ih => rw [List.map_cons, List.sum_cons, List.sum_cons, ih, Int.natCast_add]
theorem j_len {cs : List (List Str)} {s s2 : List Nat × Nat} {p : CT.Pr} (h : CT.jStep cs (some s) p = some s2) : ¬ (s.1.getD p.1 0 = s.1.getD p.2 0) ∧ CT.cm cs p ≠ 0 ∧ s2 = (CT.tie s.1 p, s.2 + CT.cm cs p) := by
  obtain ⟨l, k⟩ := s
  unfold CT.jStep at h
  dsimp only at h
  by_cases q : l.getD p.1 0 = l.getD p.2 0 ∨ CT.cm cs p = 0
  · rw [if_pos q] at h; cases h
  · rw [if_neg q] at h; cases h
    exact ⟨fun z => q (.inl z), fun z => q (.inr z), rfl⟩
theorem j_none {cs : List (List Str)} {s : List Nat × Nat} {p : CT.Pr} (h : CT.jStep cs (some s) p = none) : s.1.getD p.1 0 = s.1.getD p.2 0 ∨ CT.cm cs p = 0 := by
  obtain ⟨l, k⟩ := s
  unfold CT.jStep at h
  dsimp only at h
  by_cases q : l.getD p.1 0 = l.getD p.2 0 ∨ CT.cm cs p = 0
  · exact q
  · rw [if_neg q] at h; cases h
theorem sc_judge : FnScope ["chart", "value", "crowds", "pair", "lots", "many", "crowd"] ["chart", "value"] (defScope (topS 42)) := ⟨rfl, rfl, rfl, by decide +kernel, rfl, by decide +kernel, by decide +kernel⟩
theorem ok_judge (T : Kx K mg C) (F : FnP K "judge_crowd_tree" "judge_crowd_tree" (topS 42) f fd) (Ggood : Has P w K mg base "good" ["chart"] 10 (spF G0 (rGood C))) (Gcrowds_of : Has P w K mg base "crowds_of" ["chart"] 11 (spN Γ (rCrowds C))) (Gare_pairs : Has P w K mg base "are_pairs" ["value", "many"] 2 (spF G0 rArePairs))
    (Gcommon_many : Has P w K mg base "common_many" ["crowds", "pair"] 1 (spF G0 rCommon)) (Gtied_lots : Has P w K mg base "tied_lots" ["lots", "pair"] 1 (spF G0 rTiedLots)) (Mposts : HasM P w K mg base C "posts" ["self"] 1 (spN G0 (rPosts C))) : FnOk P w K mg base CX0 12 f fd ["chart", "value"] (spF Γ (rJudge C)) := by
  have nd := (sc_judge).nd
  have B := T.b
  have cl := T.cl
  refine fn_ok F sc_judge (fun as d ⟨g, _, _, e, _⟩ => by rcases e with e | ⟨e, _⟩ <;> (rw [e]; rfl)) fun cdv A outer s H E hr => ?_
  refine ⟨_, (pss_cons (ps_if (pt_not (pt_val (pe_h Ggood hr (pa_cons (pv 0) pa_nil)))) (pss_one (ps_ret pe_bl)) pss_nil)
    (pss_cons (ps_set (i := 2) nd rfl (Or.inl rfl) (pe_h Gcrowds_of hr (pa_cons (pv 0) pa_nil)))
    (pss_cons (ps_if (pt_not (pt_val (pe_h Gare_pairs hr (pa_cons (pv 1) (pa_cons (w_len K B (pa_cons (pv 2) pa_nil)) pa_nil))))) (pss_one (ps_ret pe_bl)) pss_nil)
    (pss_cons (ps_par (i := 4) (j := 5) rfl nd rfl rfl (by decide) rfl rfl (pa_cons (pe_listRg rfl (by rfl) B.list (prg_1 (by rfl) B.range (w_len K B (pa_cons (pv 2) pa_nil)))) (pa_cons pe_int pa_nil)) rfl)
    (pss_cons (ps_for PassesOwn.never rfl (w_piS K (pv 1)) (pg_name (i := 3) nd rfl (Or.inl rfl))
    (pss_cons (ps_if (PW.pt (pw_or (pt_cmpR op_eq (pe_ix (w_ixL K) (pv 4) (pe_ix (w_ixT K) (pv 3) pe_int (fun _ _ => rfl)) (fun _ _ => rfl)) (pe_ix (w_ixL K) (pv 4) (pe_ix (w_ixT K) (pv 3) pe_int (fun _ _ => rfl)) (fun _ _ => rfl)) (nomark _)) (pw_or1 (pt_cmpR op_eq (pe_h Gcommon_many hr (pa_cons (pv 2) (pa_cons (pv 3) pa_nil))) pe_int (nomark _))))) (pss_one (ps_ret pe_bl)) pss_nil)
    (pss_cons (ps_set (i := 4) nd rfl (Or.inl rfl) (pe_h Gtied_lots hr (pa_cons (pv 4) (pa_cons (pv 3) pa_nil))))
    (pss_one (ps_aug (i := 5) nd rfl (Or.inl rfl) (pe_h Gcommon_many hr (pa_cons (pv 2) (pa_cons (pv 3) pa_nil))) ip_add)))))
    (pss_one (ps_ret (pe_cmpR op_eq (pv 5) (pe_op op_sub (w_sum K B (pa_cons (pe_lc (own := [("crowd", 6)]) rfl nd (w_piL K (pv 2)) (blkOk_by (by kernel_rfl)) (fun _ _ _ _ _ => (pg_name (i := 6) nd rfl (Or.inl rfl))) (fun _ _ _ _ _ => pts_nil) (fun _ _ _ _ _ => (w_len K B (pa_cons (pv 6) pa_nil)))) pa_nil)) (w_len K B (pa_cons (pe_hm0 Mposts cl hr (pv 0)) pa_nil))) (nomark _))))))))), ?_⟩
  rintro as d ⟨g, ps, hg, he, hq, rfl⟩
  obtain ⟨v, rfl, hw, har⟩ : ∃ v, as = [chartD C g, v] ∧ (∀ ρ : Rho, ρ[1]? = some (some v) → WvD Γ (iSeq K (tVar 1)) ρ (ps.map prD)) ∧ (∀ m, (∀ q ∈ ps, CT.PrOk m q) → rArePairs [v, nI m] (.bl true)) := by
    rcases he with rfl | ⟨rfl, rfl⟩
    · exact ⟨_, rfl, fun ρ h => wv_seqL (ev_var h), fun m h => ⟨ps, m, .inl rfl, h, rfl⟩⟩
    · exact ⟨_, rfl, fun ρ h => wv_seqT (ev_var h), fun m h => ⟨[], m, .inr ⟨rfl, rfl⟩, h, rfl⟩⟩
  unfold judgeB
  cases hp : CT.peelingOf g.ps g.n with
  | none => exact SvD.e <| sv_seq_rt (sv_if (k := true) (TvD.is (tv_not (tv_B (ev_call0 (av_cons (ev_var rfl) av_nil) ⟨g, hg, rfl, rfl⟩))) (by rw [hp]; rfl)) (fun _ => sv_ret ev_bl) fun h => by cases h)
  | some p =>
    have co := cr_ok hg hp
    have hqp := hq p hp
    obtain ⟨cs, hcs⟩ : ∃ cs, cs = CT.crowds g.ps g.n p := ⟨_, rfl⟩
    rw [← hcs] at co hqp
    show SvE Γ _ _ (.bl (match CT.judge (CT.crowds g.ps g.n p) ps with | none => false | some s => decide (s.2 + g.ps.length = ((CT.crowds g.ps g.n p).map List.length).sum)))
    rw [← hcs]
    have hm := co.sz
    have hs := hg.sz
    refine SvD.e <| sv_seq (sv_if (k := false) (TvD.is (tv_not (tv_B (ev_call0 (av_cons (ev_var rfl) av_nil) ⟨g, hg, rfl, rfl⟩))) (by rw [hp]; rfl)) (fun h => by cases h) fun _ => sv_next)
      (sv_seq (sv_asg (EvN.ev (en_call (av_cons (ev_var rfl) av_nil) ⟨g, p, hg, rfl, hp, rfl⟩))) ?_)
    rw [← hcs]
    refine sv_seq (sv_if (k := false) (TvD.is (tv_not (tv_B (ev_call0 (av_cons (ev_var rfl) (av_cons (EvD.is (ev_cb (av_cons (ev_var rfl) av_nil) ra_len) (by rw [List.length_map])) av_nil)) (har cs.length hqp)))) rfl) (fun h => by cases h) fun _ => sv_next)
      (sv_seq (sv_par_ii (EvN.ev (en_listRg (n := cs.length) (EvD.is (ev_cb (av_cons (ev_var rfl) av_nil) ra_len) (by rw [List.length_map])) (by omega))) ev_int) ?_)
    have hlen : ∀ (s : Nat → List Nat × Nat) (m : Nat), s 0 = (List.range cs.length, 0) → (∀ j y, j < m → ps[j]? = some y → CT.jStep cs (some (s j)) y = some (s (j + 1))) → ∀ j, j ≤ m → m ≤ ps.length → (s j).1.length = cs.length := fun s m h0 h1 j => by
      induction j with
      | zero => intro _ _; rw [h0]; exact List.length_range
      | succ j ih =>
        intro h2 h3
        have := h1 j ps[j] (by omega) (List.getElem?_eq_getElem (by omega))
        rw [(j_len this).2.2]
        show (CT.tie (s j).1 _).length = _
        rw [CT.tie_length]
        exact ih (by omega) h3
    have cz : ∀ c : Nat, decide ((c : Int) = 0) = decide (c = 0) := fun c => decide_eq_decide.mpr (by omega)
    rcases opt_kk (CT.jStep cs) (fun _ => rfl) ps (List.range cs.length, 0) with ⟨s, h0, h1, h2⟩ | ⟨kk, x, s, hx, h0, h1, h2, h3⟩
    · have hl := hlen s ps.length h0 (fun j y _ hy => h1 j y hy)
      have e2 : CT.judge cs ps = some (s ps.length) := h2
      rw [e2]
      refine sv_seq (sv_for (vs := [3]) (xs := ps) (enc := prD) (hw _ rfl) (fun j => ([some (chartD C g), some v, some (crD cs), none, some (loD (s j).1), some (nI (s j).2), none], [])) ps.length (by rw [h0]; rfl) (Nat.le_refl _) (fun j q hj hqj => ?_) (.inl ⟨rfl, rfl⟩)) (sv_ret (EvD.is (ev_op (ev_var rfl) (ev_op (ev_cb (av_cons (EvN.ev (ev_lcE0N (enc2 := D.int) (xs := cs) (enc := tS) (q := fun c => ((c.length : Nat) : Int)) (wv_list (ev_var rfl)) (fun c hc => ⟨_, gv_name (by decide), EvD.is (ev_cb (av_cons (ev_var rfl) av_nil) ra_lenT) (by rw [List.length_map])⟩) (by omega))) av_nil) ra_sum)
        (ev_cb (av_cons (EvN.ev (en_meth0 (ev_var rfl) rfl av_nil ⟨g, hg, rfl, rfl⟩)) av_nil) ra_len) rd_sub) rd_eqI) ?_))
      · have hq1 := hqp q (List.mem_of_getElem? hqj)
        obtain ⟨j1, j2, j3⟩ := j_len (h1 j q hqj)
        have hlj := hl j (Nat.le_of_lt hj) (Nat.le_refl _)
        have hq2 : CT.PrOk (s j).1.length q := by rw [hlj]; exact hq1
        refine ⟨_, [some (chartD C g), some v, some (crD cs), some (prD q), some (loD (s (j + 1)).1), some (nI (s (j + 1)).2), none], gv_name (by decide), fun l _ => rfl, .inl ?_, rfl⟩
        refine sv_toN [] (sv_seq (sv_if (k := false) (TvD.is (tv_or (tv_test (ev_op (ev_lotAt (a := 0) (b := 0) rfl rfl hq2).1 (ev_lotAt (a := 0) (b := 0) rfl rfl hq2).2 rd_eqI)) fun _ => tv_test (ev_op (ev_call0 (av_cons (ev_var rfl) (av_cons (ev_var rfl) av_nil)) ⟨cs, q, co, rfl, hq1, rfl⟩) ev_int rd_eqI)) (by
            rw [nI_eq, decide_eq_false j1, cz, decide_eq_false j2]; rfl)) (fun h => by cases h) fun _ => sv_next)
          (sv_seq (sv_asg (ev_call0 (av_cons (ev_var rfl) (av_cons (ev_var rfl) av_nil)) ⟨(s j).1, q, rfl, hq2, by omega, rfl⟩)) (sv_augI rfl (ev_call0 (av_cons (ev_var rfl) (av_cons (ev_var rfl) av_nil)) ⟨cs, q, co, rfl, hq1, rfl⟩)))) ?_ rfl
        rw [j3]; rfl
      · have e5 : (cs.map fun c => ((c.length : Nat) : Int)).sum = ((cs.map List.length).sum : Nat) := by rw [← sum_nat, List.map_map]; rfl
        rw [e5, List.length_map]
        exact congrArg D.bl (decide_eq_decide.mpr (by omega))
    · have kl := (List.getElem?_eq_some_iff.mp hx).1
      have hl := hlen s kk h0 h1
      have e2 : CT.judge cs ps = none := h3
      rw [e2]
      refine sv_seq_rt (sv_for (vs := [3]) (xs := ps) (enc := prD) (hw _ rfl) (fun j => ([some (chartD C g), some v, some (crD cs), none, some (loD (s j).1), some (nI (s j).2), none], [])) kk (by rw [h0]; rfl) (Nat.le_of_lt kl) (fun j q hj hqj => ?_) (.inr ⟨x, _, _, hx, gv_name (by decide), fun l _ => rfl, ?_, rfl⟩))
      · have hq1 := hqp q (List.mem_of_getElem? hqj)
        obtain ⟨j1, j2, j3⟩ := j_len (h1 j q hj hqj)
        have hlj := hl j (Nat.le_of_lt hj) (Nat.le_of_lt kl)
        have hq2 : CT.PrOk (s j).1.length q := by rw [hlj]; exact hq1
        refine ⟨_, [some (chartD C g), some v, some (crD cs), some (prD q), some (loD (s (j + 1)).1), some (nI (s (j + 1)).2), none], gv_name (by decide), fun l _ => rfl, .inl ?_, rfl⟩
        refine sv_toN [] (sv_seq (sv_if (k := false) (TvD.is (tv_or (tv_test (ev_op (ev_lotAt (a := 0) (b := 0) rfl rfl hq2).1 (ev_lotAt (a := 0) (b := 0) rfl rfl hq2).2 rd_eqI)) fun _ => tv_test (ev_op (ev_call0 (av_cons (ev_var rfl) (av_cons (ev_var rfl) av_nil)) ⟨cs, q, co, rfl, hq1, rfl⟩) ev_int rd_eqI)) (by
            rw [nI_eq, decide_eq_false j1, cz, decide_eq_false j2]; rfl)) (fun h => by cases h) fun _ => sv_next)
          (sv_seq (sv_asg (ev_call0 (av_cons (ev_var rfl) (av_cons (ev_var rfl) av_nil)) ⟨(s j).1, q, rfl, hq2, by omega, rfl⟩)) (sv_augI rfl (ev_call0 (av_cons (ev_var rfl) (av_cons (ev_var rfl) av_nil)) ⟨cs, q, co, rfl, hq1, rfl⟩)))) ?_ rfl
        rw [j3]; rfl
      · have hq1 := hqp x (List.mem_of_getElem? hx)
        have hlj := hl kk (Nat.le_refl _) (Nat.le_of_lt kl)
        have hq2 : CT.PrOk (s kk).1.length x := by rw [hlj]; exact hq1
        refine sv_seq_rt (sv_if (k := true) (TvD.is (tv_or (tv_test (ev_op (ev_lotAt (a := 0) (b := 0) rfl rfl hq2).1 (ev_lotAt (a := 0) (b := 0) rfl rfl hq2).2 rd_eqI)) fun _ => tv_test (ev_op (ev_call0 (av_cons (ev_var rfl) (av_cons (ev_var rfl) av_nil)) ⟨cs, x, co, rfl, hq1, rfl⟩) ev_int rd_eqI)) ?_) (fun _ => sv_ret ev_bl) fun h => by cases h)
        rw [nI_eq, cz]
        rcases j_none h2 with z | z
        · rw [decide_eq_true z]; rfl
        · rw [decide_eq_true z, Bool.or_true]
end
end CW
/-! W11 -/
/-! W11: a pair turned: t[::-1]. -/
namespace CW
open PySem PySem.Spec PyProof.Rows L2
section
variable {prog : Program} {w : World} {A : Around} {E : Value → Shared → Prop} {s : Shared}
theorem cut_rev {sl : Addr} {v : Value} {Q : Int × Int × Nat → Shared → Prop} (hs : s.heap.IsSliceOf sl .none .none v) (pv : IsPart v (some (-1))) (h : Q (1, -1, 2) s) : wpAny (model prog w) A (Builtin.Slice.sliceApplied (.ref sl) (pure ((2 : Nat) : Int))) Q E s := by
  obtain ⟨os, h1, _, h2⟩ := id hs
  unfold Builtin.Slice.sliceApplied Builtin.Slice.sliceFields
  refine wpAny_bind (wpAny_bind (wpAny_field h1 h2 (x := .none) rfl (wpAny_bind (wpAny_field h1 h2 (x := .none) rfl (wpAny_bind (wpAny_field h1 h2 (x := v) rfl (wpAny_pure (wpAny_bind (HT.slicePart_ pv ?_)))))))))
  show wpAny _ _ (if ((-1 : Int) == 0) = true then _ else _) _ _ s
  rw [if_neg (by decide)]
  exact wpAny_bind (slicePart_none (wpAny_bind (slicePart_none (wpAny_bind (wpAny_pure (wpAny_pure h))))))
theorem item_rev {t sl : Addr} {x y v : Value} {Q : Value → Shared → Prop} (ht : IsTup s.heap t #[x, y]) (hs : s.heap.IsSliceOf sl .none .none v) (pv : IsPart v (some (-1)))
    (h : Q (.ref s.heap.objs.size) { s with heap := s.heap.push { cls := .type "tuple", data := .seq #[y, x] } }) : wpAny (model prog w) A (getItem (.ref t) (.ref sl)) Q E s := by
  have ty : s.TypeIs (.ref sl) "slice" := let ⟨os, h1, h2, _⟩ := hs; ⟨os, h1, h2⟩
  unfold getItem
  (try with_reducible refine wpAny_holding ?_); first | (refine wpAny_bind (wpAny_pure ?_)) | skip
  refine wpAny_bind (wpAny_sequenceKey ht.typeIs (by decide) (wpAny_bind (wpAny_callSpecial?_slot (name := Str.ofString "__getitem__") ht.typeIs PyProof.Rows.slot_tuple_getitem (wpAny_call_entry PyProof.Rows.slot_tuple_getitem ht.typeIs entry_tuple_getitem ?_ (args_tuple_getitem _ _)))))
  show wpAny _ _ (Builtin.Tuple.tupleItemsOf (.ref t) >>= _) _ _ s
  refine wpAny_bind (tupleItemsOf_ ht (wpAny_bind (wpAny_typeOf ty ?_)))
  rw [if_pos (by decide)]; refine wpAny_bind (cut_rev hs pv ?_)
  show wpAny _ _ (if (((1 : Int) == 0) && ((-1 : Int) == 1) && ((2 : Nat) == 2)) = true then _ else _) _ _ s
  rw [if_neg (by decide)]
  first
    | exact wpAny_bind (m := Builtin.Tuple.tupleExact _) (wpAny_newObj_type (wpAny_pure ⟨_, rfl, wpAny_pure h⟩) (by show 2 ≤ sizeLine; decide))
    | exact wpAny_bind (m := Builtin.Tuple.tupleExact _) (wpAny_newObj_type (wpAny_bind (wpAny_pure (wpAny_pure ⟨_, rfl, wpAny_pure h⟩))) (by show 2 ≤ sizeLine; decide))
    | exact wpAny_bind (wpAny_bind (m := Builtin.Tuple.tupleExact _) (wpAny_newObj_type (wpAny_pure (wpAny_pure ⟨_, rfl, wpAny_pure h⟩)) (by show 2 ≤ sizeLine; decide)))
end
section
variable {X : Cx} {e : Expr} {te : TE} {k : Nat} {p1 p2 p3 pos : Pos}
def tRev2 (K : PySem.W.Frag) (te : TE) : TE := fun σ H Q => te σ H fun x H1 => ∃ a u v, x = .ref a ∧ SqT K H1 a [u, v] ∧ ∀ p, H1 p = none → Q (.ref p) (upd H1 p (.tup [v, u]))
theorem pe_rev2 (K : PySem.W.Frag) (he : PE X e te) (hK : X.K = K := by rfl) : PE X (.Subscript e (.Slice none none (some (.UnaryOp .USub (.Constant (.int 1) k p1) p2)) p3) pos) (tRev2 K te) := by
  subst hK
  refine ⟨fun pins s σ H Q I h => ?_⟩
  have st : PO X (some (.UnaryOp .USub (.Constant (.int 1) k p1) p2)) (tPart (tUn (rU fun i => .int (-i)) (tC (.int 1)))) := po_some (pe_un un_neg pe_int)
  refine Subscript_ (thn (he.run pins s σ H _ I h) fun v s1 ⟨x, H1, I1, r1, a, u, v2, ex, hx, q⟩ => ?_)
  subst ex; cases r1
  refine wpAny_Slice (thn (po_none.run pins s1 σ H1 (fun o H2 => o = none ∧ H2 = H1) I1 ⟨rfl, rfl⟩) fun vl s2 ⟨lo, H2, I2, pl, elo, e2⟩ => ?_)
  subst elo e2; cases pl
  refine thn (po_none.run pins s2 σ H2 (fun o H3 => o = none ∧ H3 = H2) I2 ⟨rfl, rfl⟩) fun vu s3 ⟨l3, H3, I3, pu, eu, e3⟩ => ?_
  subst eu e3; cases pu
  refine thn (st.run pins s3 σ H3 (fun o H4 => o = some (-1) ∧ H4 = H3) I3 ⟨1, rfl, -1, rfl, rfl, rfl⟩) fun vs s4 ⟨o, H4, I4, ps, eo, e4⟩ => ?_
  subst eo e4
  have I5 : Inv X pins σ H4 { s4 with heap := s4.heap.push { cls := .type "slice", data := .fields #[.none, .none, vs] } } := I4.kept (t' := s4.toks) fun b ob z => Heap.get?_push_of_some _ z
  obtain ⟨its, r, ht, _⟩ := I5.tuple hx
  cases r with
  | cons ru rr =>
    cases rr with
    | cons rv rr =>
      cases rr
      refine tail_any (ops := [.ref a, .ref s4.heap.objs.size]) ht.typeIs PyProof.Rows.slot_tuple_getitem.lookup (item_rev ht (Heap.IsSliceOf.new _ .none .none vs) ps ?_) (by with_unfolding_all rfl)
      refine ⟨.ref _, _, I5.laid (t' := s4.toks) (o := .tup [v2, u]) (fun b ob z => Heap.get?_push_of_some _ z) (Nat.le_refl _) ?_, rfl, q _ (I5.hok.fresh (Nat.le_refl _))⟩
      exact ⟨by show 2 ≤ sizeLine; decide, _, .cons rv (.cons ru .nil), IsTup.new _ _⟩
end
theorem ev_rev2 {Γ : Gam} {ρ : Rho} {te : TE} {K : PySem.W.Frag} {a b : D} (h : EvD Γ te ρ (.tup [a, b])) : EvD Γ (tRev2 K te) ρ (.tup [b, a]) := fun σ S H s k Q q =>
  h σ S H s k _ fun v S1 H1 n1 x => by
    cases x with
    | tup e al =>
      cases al with
      | cons h1 t1 =>
        cases t1 with
        | cons h2 t2 =>
          cases t2
          refine ⟨_, _, _, rfl, .of (n1.ok.ex _ _ e), fun p hp => q _ _ _ (n1.trans (.new n1.ok hp _)) (.tup upd_same (.cons ?_ (.cons ?_ .nil)))⟩
          · exact h2.mono (Ex.new (n1.ok.fresh hp))
          · exact h1.mono (Ex.new (n1.ok.fresh hp))
end CW
/-! P8 -/
/-! P8: wrong_tie. -/
namespace CW
open PySem PySem.Spec PyProof.Rows L2
section
variable {Γ : Gam} {ρ : Rho} {μ : Mus} {td ty : TE} {i : Nat} {n : Nat} {f : List Str → Bool} {x : List Str}
theorem en_dnewT : EvN Γ tDNewT ρ (.tks 0 fun _ => false) := fun σ S H s k Q q p hp =>
  q p S _ _ (.hid k hp _) hp (k.fresh hp) upd_same (.dT (Nat.le_refl _) fun _ => rfl)
theorem putK_le {κ : Type} [DecidableEq κ] (c : List (κ × V)) (k : κ) (x : V) : (putK c k x).length ≤ c.length + 1 := by
  unfold putK
  split
  · rw [List.length_map]; exact Nat.le_succ _
  · rw [List.length_append]; exact Nat.le_refl _
theorem strs_kV (x : List Str) : x.map V.str = (x.map fun y => (Sum.inr y : Key)).map kV := by rw [List.map_map]; rfl
theorem ev_dinT (hy : EvD Γ ty ρ (.tup (sS x))) (h : EvD Γ td ρ (.tks n f)) : EvD Γ (tDIn ty td) ρ (.bl (f x)) := fun σ S H s k Q q =>
  hy σ S H s k _ fun y S1 H1 n1 a => h σ S1 H1 (s.mono n1.ex) n1.ok _ fun v S2 H2 n2 b => by
    cases a with
    | tup e1 al =>
      rw [al.strs, strs_kV] at e1
      cases b with
      | tks e2 z g => exact ⟨_, _, rfl, DGet.t (n2.ok.ex _ _ e2) (n2.ok.ex _ _ (n2.ex _ _ e1)), q _ S2 H2 (n1.trans n2) (by rw [g x]; exact .bl _)⟩
theorem sv_dputT (hm : getM μ i = some (.tks n f)) (hy : EvD Γ ty ρ (.tup (sS x))) (hz : n ≤ 90000) : SvD Γ (sDPut (tVar i) ty (tC (.bl true))) ρ μ (.nx ρ (updM μ i (.tks (n + 1) fun y => f y || decide (y = x)))) := fun S0 H0 F S H σ k0 nn ff s m Dn q => by
  obtain ⟨p, o, h1, h2, h3, h4, h5⟩ := m.at_ i _ (getM_mem hm)
  cases h5 with
  | dT z g =>
    refine ⟨_, h1, hy σ S H s nn.ok _ fun y S2 H2 n2 a => ?_⟩
    cases a with
    | tup e1 al =>
      rw [al.strs, strs_kV] at e1
      have h4' : H2 p = some (.dT _) := n2.fr p _ (k0.nb h2) h4
      refine ⟨p, _, rfl, DPut.t h4' (n2.ok.ex _ _ e1) (szlt (by omega)), ?_⟩
      have m2 := m.step k0 n2
      obtain ⟨p3, o3, g1, g2, g3, g4, g5⟩ := m2.at_ i _ (getM_mem hm)
      rw [h1] at g1; cases g1
      refine q σ S2 _ ((nn.trans n2).mut h2 g3 h4' (fun z => z) k0 _) (ff.trans n2.ex) (s.mono n2.ex) (m2.upd h1 (getM_mem hm) (.dT (Nat.le_trans (putK_le _ _ _) (Nat.succ_le_succ z)) fun w => ?_))
      rw [valV_put]
      by_cases e : w = x
      · subst e; simp
      · have e2 : ¬ (w.map fun y => (Sum.inr y : Key)) = x.map fun y => (Sum.inr y : Key) := fun z => e ((List.map_inj_right (fun a b h => Sum.inr.inj h)).mp z)
        rw [if_neg e2, g w, decide_eq_false e, Bool.or_false]
end
abbrev tieD (t : Str × Str) : D := .tup [.str t.1, .str t.2]
structure TiesOk (ps : List Str) (ts : List (Str × Str)) : Prop where
  on : ∀ t ∈ ts, t.1 ∈ ps ∧ t.2 ∈ ps ∧ t.1 ≠ t.2
  ap : ts.Pairwise fun a b => a ≠ b ∧ a ≠ (b.2, b.1)
  sz : ts.length ≤ 1000
structure PostsOk (ps : List Str) : Prop where
  nd : ps.Nodup
  sz : ps.length ≤ 16
  wd : ∀ p ∈ ps, Word p
def rWrongTie (as : List D) (d : D) : Prop := ∃ (ps : List Str) (ts : List (Str × Str)), as = [.lst (sS ps), .lst (ts.map tieD)] ∧ PostsOk ps ∧ TiesOk ps ts ∧ d = .non
section
variable {P : Program} {w : World} {K : PySem.W.Frag} {mg : Str → Option Value} {base : Heap} {C : Addr} {f : Addr} {fd : FuncData}
theorem sc_wrong_tie : FnScope ["posts", "ties", "met", "k", "tie", "j", "post"] ["posts", "ties"] (defScope (topS 29)) := ⟨rfl, rfl, rfl, by decide +kernel, rfl, by decide +kernel, by decide +kernel⟩
theorem ok_wrong_tie (T : Kx K mg C) (F : FnP K "wrong_tie" "wrong_tie" (topS 29) f fd) (Gis_list : Has P w K mg base "is_list" ["value"] 1 (spF G0 rIsList)) (Gis_row : Has P w K mg base "is_row" ["value", "many"] 1 (spF G0 rIsRow)) (Gis_among : Has P w K mg base "is_among" ["value", "words"] 2 (spF G0 rIsAmong)) :
    FnOk P w K mg base CX0 3 f fd ["posts", "ties"] (spF G0 rWrongTie) := by
  have nd := (sc_wrong_tie).nd
  have B := T.b
  refine fn_ok F sc_wrong_tie (fun as d ⟨_, _, e, _⟩ => by rw [e]; rfl) fun cdv A outer s H E hr => ?_
  have hu := hu_of hr
  refine ⟨_, (pss_cons (ps_if (pt_not (pt_val (pe_h Gis_list hr (pa_cons (pv 1) pa_nil)))) (pss_one (ps_ret (pe_tup (pa_cons pe_int pa_nil)))) pss_nil)
    (pss_cons (ps_set (i := 2) nd rfl (Or.inl rfl) pe_dnewT)
    (pss_cons (ps_for PassesOwn.never rfl (pi_enum (by rfl) B.enumerate (pa_cons (pv 1) pa_nil)) (pg_tup (by rfl) (pgs_cons (pg_name (i := 3) nd rfl (Or.inl rfl)) (pgs_cons (pg_name (i := 4) nd rfl (Or.inl rfl)) pgs_nil)))
    (pss_cons (ps_if (pt_not (pt_val (pe_h Gis_row hr (pa_cons (pv 4) (pa_cons pe_int pa_nil))))) (pss_one (ps_ret (pe_tup (pa_cons pe_int (pa_cons (pv 3) pa_nil))))) pss_nil)
    (pss_cons (ps_for PassesOwn.never rfl (pi_enumT (by rfl) B.enumerate (pa_cons (pv 4) pa_nil)) (pg_tup (by rfl) (pgs_cons (pg_name (i := 5) nd rfl (Or.inl rfl)) (pgs_cons (pg_name (i := 6) nd rfl (Or.inl rfl)) pgs_nil)))
    (pss_one (ps_if (pt_not (pt_val (pe_h Gis_among hr (pa_cons (pv 6) (pa_cons (pv 0) pa_nil))))) (pss_one (ps_ret (pe_tup (pa_cons pe_int (pa_cons (pv 3) (pa_cons (pv 5) pa_nil)))))) pss_nil)))
    (pss_cons (ps_if (PW.pt (pw_or (pt_cmpR op_eq (pe_ix (w_ixT K) (pv 4) pe_int (fun _ _ => rfl)) (pe_ix (w_ixT K) (pv 4) pe_int (fun _ _ => rfl)) (nomark _)) (pw_or (pt_cmp (pc_din hu (pv 4) (pv 2)) rfl) (pw_or1 (pt_cmp (pc_din hu (pe_rev2 K (pv 4)) (pv 2)) rfl))))) (pss_one (ps_ret (pe_tup (pa_cons pe_int (pa_cons (pv 3) pa_nil))))) pss_nil)
    (pss_one (ps_dput hu (pv 2) (pv 4) pe_bl rfl))))))
    (pss_one (ps_ret pe_non))))), ?_⟩
  rintro as d ⟨ps, ts, rfl, hp, ht, rfl⟩
  have hts := ht.sz
  refine SvD.e <| sv_seq (sv_if (k := false) (TvD.is (tv_not (tv_B (ev_call0 (av_cons (ev_var rfl) av_nil) ⟨_, rfl, ⟨_, Or.inl rfl⟩, rfl⟩))) rfl) (fun h => by cases h) fun _ => sv_next)
    (sv_seq (sv_asgN en_dnewT) (sv_seq (sv_for (vs := [3, 4, 5, 6]) (xs := ts.zipIdx) (enc := fun q => D.tup [.int (q.2 : Nat), tieD q.1]) (wv_enumL (enc := tieD) (av_cons (ev_var rfl) av_nil))
      (fun j => ([some (.lst (sS ps)), some (.lst (ts.map tieD)), none, none, none, none, none], [(2, .tks j fun y => (ts.take j).any fun t => decide (y = [t.1, t.2]))])) ts.zipIdx.length rfl (Nat.le_refl _) (fun j q hj hq => ?_) (.inl ⟨rfl, rfl⟩)) (sv_ret ev_non)))
  obtain ⟨t, k⟩ := q
  have hjt : j < ts.length := by rw [List.length_zipIdx] at hj; exact hj
  have hk : ts[j]? = some t ∧ k = j := by
    rw [List.getElem?_zipIdx, List.getElem?_eq_getElem hjt] at hq
    have := Option.some.inj hq
    rw [Prod.mk.injEq] at this
    exact ⟨by rw [List.getElem?_eq_getElem hjt, this.1], by omega⟩
  have on := ht.on t (List.mem_of_getElem? hk.1)
  have ne : ∀ u ∈ ts.take j, u ≠ t ∧ u ≠ (t.2, t.1) := fun u hu => by
    obtain ⟨a, ha, rfl⟩ := List.mem_take_iff_getElem.mp hu
    have := List.pairwise_iff_getElem.mp ht.ap a j (by omega) hjt (by omega)
    rw [show ts[j] = t from by rw [List.getElem?_eq_getElem hjt] at hk; exact Option.some.inj hk.1] at this
    exact this
  have f1 : ((ts.take j).any fun u => decide ([t.1, t.2] = [u.1, u.2])) = false := List.any_eq_false.mpr fun u hu z => (ne u hu).1 (by
    have := of_decide_eq_true z
    injection this with a b; injection b with b _
    exact Prod.ext a.symm b.symm)
  have f2 : ((ts.take j).any fun u => decide ([t.2, t.1] = [u.1, u.2])) = false := List.any_eq_false.mpr fun u hu z => (ne u hu).2 (by
    have := of_decide_eq_true z
    injection this with a b; injection b with b _
    exact Prod.ext a.symm b.symm)
  have e1 : (fun y => ((ts.take (j + 1)).any fun t => decide (y = [t.1, t.2]))) = fun y => ((ts.take j).any fun t => decide (y = [t.1, t.2])) || decide (y = [t.1, t.2]) := by
    funext y
    rw [List.take_add_one, hk.1, List.any_append]
    simp
  refine ⟨[some (.lst (sS ps)), some (.lst (ts.map tieD)), none, some (.int (k : Nat)), some (tieD t), none, none], [some (.lst (sS ps)), some (.lst (ts.map tieD)), none, some (.int (k : Nat)), some (tieD t), none, none], gv_tup (gs_cons (gv_name (by decide)) (gs_cons (gv_name (by decide)) gs_nil)), fun l hl => by
    rcases List.mem_cons.mp hl with rfl | hl
    · rfl
    rcases List.mem_cons.mp hl with rfl | hl
    · rfl
    rcases List.mem_cons.mp hl with rfl | hl
    · rfl
    rw [List.mem_singleton.mp hl]; rfl, .inl ?_, rfl⟩
  refine sv_toN [] (sv_seq (sv_if (k := false) (TvD.is (tv_not (tv_B (ev_call0 (av_cons (ev_var rfl) (av_cons ev_int av_nil)) ⟨_, _, rfl, rfl⟩))) rfl) (fun h => by cases h) fun _ => sv_next)
    (sv_seq (sv_forA (vs := [5, 6]) (xs := [t.1, t.2].zipIdx) (wv_enumT (enc := .str) (xs := [t.1, t.2]) (av_cons (ev_var rfl) av_nil)) (fun l hl => by
        rcases List.mem_cons.mp hl with rfl | hl
        · rfl
        rw [List.mem_singleton.mp hl]; rfl) (fun i q hq => ?_))
    (sv_seq (sv_if (k := false) (TvD.is (tv_or (tv_test (ev_op (ev_op (ev_var rfl) ev_int (rd_ixT (n := 0) rfl rfl)) (ev_op (ev_var rfl) ev_int (rd_ixT (n := 1) rfl rfl)) rd_eqS)) fun _ => tv_or (tv_B (ev_dinT (x := [t.1, t.2]) (ev_var rfl) (ev_var rfl))) fun _ => tv_B (ev_dinT (x := [t.2, t.1]) (ev_rev2 (ev_var rfl)) (ev_var rfl))) ?_) (fun h => by cases h) fun _ => sv_next)
      (sv_dputT (i := 2) (x := [t.1, t.2]) rfl (ev_var rfl) (by omega))))) rfl ?_
  · have hq2 : q.1 ∈ ps := by
      have := (List.mem_zipIdx' (List.mem_of_getElem? hq)).2
      have hm : q.1 ∈ [t.1, t.2] := by rw [this]; exact List.getElem_mem _
      rcases List.mem_cons.mp hm with e | hm
      · rw [e]; exact on.1
      · rw [List.mem_singleton.mp hm]; exact on.2.1
    refine ⟨_, _, gv_tup (gs_cons (gv_name (by decide)) (gs_cons (gv_name (by decide)) gs_nil)), .inl (sv_if (k := false) (TvD.is (tv_not (tv_B (ev_call0 (av_cons (ev_var rfl) (av_cons (ev_var rfl) av_nil)) ⟨q.1, ps, Or.inl rfl, hp.wd _ hq2, rfl⟩))) ?_) (fun h => by cases h) fun _ => sv_next), rfl⟩
    rw [decide_eq_true hq2]; rfl
  · rw [decide_eq_false on.2.2, f1, f2]; rfl
  · rw [e1]; rfl
end
end CW
/-! P9 -/
/-! P9: Map.__init__. -/
namespace CW
open PySem PySem.Spec PyProof.Rows L2
def nearOf (ts : List (Str × Str)) (x y : Str) : Bool := decide (x = y) || ts.any fun t => decide (t = (x, y)) || decide (t = (y, x))
def grOf (ps : List Str) (ts : List (Str × Str)) : Gr := ⟨ps, nearOf ts⟩
theorem grOf_ok {ps : List Str} (ts : List (Str × Str)) (h : PostsOk ps) : (grOf ps ts).Ok where
  nd := h.nd
  sz := h.sz
  wd := h.wd
  rf := fun x => by show nearOf ts x x = true; unfold nearOf; rw [decide_eq_true rfl]; rfl
  sy := fun x y => by
    show nearOf ts x y = nearOf ts y x
    unfold nearOf
    rw [show decide (x = y) = decide (y = x) from decide_eq_decide.mpr eq_comm]
    congr 2
    funext t
    exact Bool.or_comm _ _
theorem sv_step {Γ : Gam} {t u : TS} {ρ ρ1 : Rho} {μ μ1 : Mus} {S0 H0 S H : Hp} {σ : L2.St} {Dn : Ends} (h : SvD Γ t ρ μ (.nx ρ1 μ1)) (k0 : Ok Γ S0 H0) (n : Nx Γ S0 H0 S H) (s : Sl S σ ρ) (m : Mu S H H0 σ μ)
    (hu : ∀ σ' S' H', Nx Γ S0 H0 S' H' → Ex S S' → Sl S' σ' ρ1 → Mu S' H' H0 σ' μ1 → u Dn σ' H') : tSeq t u Dn σ H := h S0 H0 S S H σ k0 n (Ex.refl _) s m { Dn with nx := u Dn } fun σ' S' H' n' f' s' m' => hu σ' S' H' n' f' s' m'
theorem AtFs.length {S : Hp} : ∀ {fs : List (Str × V)} {ds : List (Str × D)}, AtFs S fs ds → fs.length = ds.length
  | _, _, .nil => rfl
  | _, _, .cons _ t => congrArg (· + 1) t.length
theorem AtFs.snoc {S : Hp} {x : Str} {v : V} {d : D} (a : At S v d) : ∀ {fs : List (Str × V)} {ds : List (Str × D)}, AtFs S fs ds → AtFs S (fs ++ [(x, v)]) (ds ++ [(x, d)])
  | _, _, .nil => .cons a .nil
  | _, _, .cons h t => .cons h (t.snoc a)
theorem putF_new {f : Str} {v : V} : ∀ {fs : List (Str × V)}, fs.lookup f = none → putF f v fs = fs ++ [(f, v)]
  | [], _ => rfl
  | (g, x) :: r, h => by
    rw [List.lookup_cons] at h
    cases e : f == g with
    | true => rw [e] at h; cases h
    | false =>
      rw [e] at h
      have ne : g ≠ f := fun z => by rw [z, beq_self_eq_true] at e; cases e
      show (if g = f then (g, v) :: r else (g, x) :: putF f v r) = _
      rw [if_neg ne, putF_new h]; rfl
/-- self.f = e, self in the making -/
theorem sv_fput {Γ : Gam} {ρ : Rho} {μ : Mus} {tv : TE} {i : Nat} {C : Addr} {ds : List (Str × D)} {f : Str} {d : D} {K : PySem.W.Frag} (hm : getM μ i = some (.ins C ds)) (he : EvD Γ tv ρ d) (cl : Cls K C) (na : NoAttr K C f) (hl : ds.lookup f = none) (hz : Nat.blt ds.length 1000 = true := by rfl) :
    SvD Γ (sFld K (tVar i) tv f) ρ μ (.nx ρ (updM μ i (.ins C (ds ++ [(f, d)])))) := fun S0 H0 F S H σ k0 n ff s m Dn q => by
  refine he σ S H s n.ok _ fun v S2 H2 n2 a => ?_
  have m2 := m.step k0 n2
  obtain ⟨p, o, h1, h2, h3, h4, h5⟩ := m2.at_ i _ (getM_mem hm)
  cases h5 with
  | ins fs =>
    refine ⟨_, h1, p, C, _, _, rfl, h4, cl, na, by rw [fs.length]; exact Nat.le_of_ble_eq_true hz, ?_⟩
    rw [putF_new (fs.look_none hl)]
    exact q σ S2 _ ((n.trans n2).mut h2 h3 h4 (fun z => z) k0 _) (ff.trans n2.ex) (s.mono n2.ex) (m2.upd h1 (getM_mem hm) (.ins (fs.snoc a)))
/-! ### {post: {post: True} for post in posts} -/
def kvN (ps : List Str) (ads : List Addr) : List (Key × V) := (ps.zip ads).map fun q => (Sum.inr q.1, V.ref q.2)
theorem kvN_snoc {ps : List Str} {ads : List Addr} (p : Str) (a : Addr) (h : ads.length = ps.length) : kvN (ps ++ [p]) (ads ++ [a]) = kvN ps ads ++ [(Sum.inr p, .ref a)] := by
  unfold kvN
  rw [List.zip_append h.symm, List.map_append]; rfl
theorem valV_none {p : Str} : ∀ {ps : List Str} {ads : List Addr}, p ∉ ps → valV (kvN ps ads) (Sum.inr p) = none
  | [], _, _ => by unfold kvN; rfl
  | _ :: _, [], _ => by unfold kvN; rfl
  | q :: ps, a :: ads, h => by
    have h1 : q ≠ p := fun e => h (by rw [e]; exact List.mem_cons_self)
    show valV ((Sum.inr q, V.ref a) :: kvN ps ads) _ = none
    rw [valV_neg (fun e => h1 (Sum.inr.inj e))]
    exact valV_none fun z => h (List.mem_cons_of_mem _ z)
theorem valV_kvN {p : Str} {a : Addr} : ∀ {ps : List Str} {ads : List Addr} {i : Nat}, ps.Nodup → ps[i]? = some p → ads[i]? = some a → valV (kvN ps ads) (Sum.inr p) = some (.ref a)
  | [], _, _, _, h, _ => by cases h
  | _ :: _, [], _, _, _, h => by cases h
  | q :: ps, b :: ads, 0, _, h1, h2 => by
    cases h1; cases h2
    show valV ((Sum.inr p, V.ref a) :: kvN ps ads) _ = _
    rw [valV_pos rfl]
  | q :: ps, b :: ads, i + 1, hn, h1, h2 => by
    have hn' := List.nodup_cons.mp hn
    have h1' : ps[i]? = some p := by simpa using h1
    have ne : q ≠ p := fun e => hn'.1 (by rw [e]; exact List.mem_of_getElem? h1')
    show valV ((Sum.inr q, V.ref b) :: kvN ps ads) _ = _
    rw [valV_neg (fun e => ne (Sum.inr.inj e))]
    exact valV_kvN hn'.2 h1' (by simpa using h2)
theorem near_made {ps : List Str} {wi : TI} {ρ : Rho} {σ : L2.St} {S H : Hp} {Q : VK} (hw : WvD G0 wi ρ (ps.map .str)) (s : Sl S σ ρ) (k : Ok G0 S H) (hn : ps.Nodup) (hz : ps.length ≤ 100) (hs : 6 < ρ.length)
    (q : ∀ (D : Addr) (S' H' : Hp) (ads : List Addr), Nx G0 S H S' H' → H D = none → S' D = none → H' D = some (.dK (kvN ps ads)) → ads.length = ps.length → ads.Nodup → D ∉ ads → (∀ (i : Nat) (a : Addr) (p : Str), ads[i]? = some a → ps[i]? = some p → H' a = some (.dK [(Sum.inr p, .bl true)]) ∧ H a = none ∧ S' a = none) → Q (.ref D) H') :
    tDc wi (gName 6) tYes (tVar 6) (tDisp [(tVar 6, tC (.bl true))]) [6] σ H Q := by
  refine hw σ S H s k _ fun J S1 H1 n1 w D hD => ?_
  have hS1 := n1.ok.fresh hD
  have lm : (ps.map CW.D.str).length = ps.length := List.length_map ..
  refine ⟨fun i m H' => m = ps.length - i ∧ i ≤ ps.length ∧ ∃ S', Nx G0 S1 H1 S' H' ∧ S' D = none ∧ ∃ ads : List Addr, ads.length = i ∧ ads.Nodup ∧ D ∉ ads ∧ H' D = some (.dK (kvN (ps.take i) ads)) ∧ ∀ (j : Nat) (a : Addr) (p : Str), ads[j]? = some a → ps[j]? = some p → H' a = some (.dK [(Sum.inr p, .bl true)]) ∧ H1 a = none ∧ S' a = none,
    ⟨ps.length, rfl, Nat.zero_le _, S1, .hid n1.ok hD _, hS1, [], rfl, .nil, fun z => (List.not_mem_nil z).elim, by rw [upd_same]; rfl, fun j a p h => by cases h⟩, ?_⟩
  rintro i m H' ⟨rfl, hi, S', n2, hs', ads, l1, l2, l3, l4, l5⟩
  have e2 := n2.ex
  by_cases hlt : i < ps.length
  · refine .inr ⟨w.go i S' H' (by rw [lm]; exact hlt) e2 n2.ok, fun H'' => i + 1 ≤ ps.length ∧ ∃ S', Nx G0 S1 H1 S' H'' ∧ S' D = none ∧ ∃ ads : List Addr, ads.length = i + 1 ∧ ads.Nodup ∧ D ∉ ads ∧ H'' D = some (.dK (kvN (ps.take (i + 1)) ads)) ∧ ∀ (j : Nat) (a : Addr) (p : Str), ads[j]? = some a → ps[j]? = some p → H'' a = some (.dK [(Sum.inr p, .bl true)]) ∧ H1 a = none ∧ S' a = none,
      fun H'' z => ⟨ps.length - (i + 1), by omega, rfl, z⟩, fun x H'' y => ?_⟩
    obtain ⟨S3, d, n3, hd, ad⟩ := w.yld i x S' H' H'' (by rw [lm]; exact hlt) e2 n2.ok y
    have hx : ps[i]? = some ps[i] := List.getElem?_eq_getElem hlt
    rw [List.getElem?_map, hx] at hd
    cases hd
    have sW : Sl S3 (L2.wipe σ [6]) (wipeD ρ [6]) := (s.mono (n1.ex.trans (e2.trans n3.ex))).wipe [6]
    refine gv_name (i := 6) (vs := [6]) (by decide) x _ S3 H'' ad sW n3.ok _ fun σ2 s2 l6 ag => ⟨by rw [wipe_agree (τ := L2.wipe σ [6]) l6 ag, wipe_wipe], ?_⟩
    have sv : ((wipeD ρ [6]).set 6 (some (.str ps[i])))[6]? = some (some (.str ps[i])) := List.getElem?_set_self (by show 6 < (ρ.set 6 none).length; rw [List.length_set]; exact hs)
    obtain ⟨v6, v61, v62⟩ := s2.at_ 6 _ sv
    cases v62
    refine ⟨_, v61, fun a ha => ⟨_, v61, ?_⟩⟩
    have n23 := n2.trans n3
    have hd3 : H'' D = some (.dK _) := n3.fr D _ (fun z => z) l4
    have hs3 : S3 D = none := (n3.old D (by rw [l4]; exact nofun)).trans hs'
    have naD : a ≠ D := fun z => by rw [z, hd3] at ha; cases ha
    have old : ∀ (j : Nat) (b : Addr) (p : Str), ads[j]? = some b → ps[j]? = some p → H'' b = some (.dK [(Sum.inr p, .bl true)]) ∧ H1 b = none ∧ S3 b = none := fun j b p h1 h2 => by
      obtain ⟨z1, z2, z3⟩ := l5 j b p h1 h2
      exact ⟨n3.fr b _ (fun z => z) z1, z2, (n3.old b (by rw [z1]; exact nofun)).trans z3⟩
    have nin : a ∉ ads := fun z => by
      obtain ⟨j, hj, e⟩ := List.getElem_of_mem z
      have := (old j a ps[j] (by rw [List.getElem?_eq_getElem hj, e]) (List.getElem?_eq_getElem (by omega))).1
      rw [ha] at this; cases this
    refine ⟨upd_same, [(Sum.inr ps[i], .bl true)], rfl, (by show 1 ≤ 15; decide), ?_⟩
    have n4 : Nx G0 S1 H1 S3 (upd (upd H'' a (.dK [])) a (.dK [(Sum.inr ps[i], .bl true)])) := (n23.trans (.hid n3.ok ha _)).mut (u := .dK []) (live_of n23 ha) (n3.ok.fresh ha) upd_same (fun z => z) n1.ok _
    have eD : upd (upd H'' a (.dK [])) a (.dK (mergeK [] [(Sum.inr ps[i], .bl true)])) D = some (.dK (kvN (ps.take i) ads)) := by rw [upd_ne (Ne.symm naD), upd_ne (Ne.symm naD)]; exact hd3
    have hnp : ps[i] ∉ ps.take i := fun z => by
      obtain ⟨j, hj, e⟩ := List.mem_take_iff_getElem.mp z
      have := (List.getElem_inj hn).mp e
      omega
    have tk : ps.take (i + 1) = ps.take i ++ [ps[i]] := by rw [List.take_add_one, hx]; rfl
    have lt : ads.length = (ps.take i).length := by rw [List.length_take, l1]; omega
    refine ⟨_, Sum.inr ps[i], rfl, eD, ?_, hlt, S3, (n4.mut hD hs3 eD (fun z => z) n1.ok _), hs3, ads ++ [a], by rw [List.length_append, l1]; rfl, ?_, ?_, ?_, fun j b p h1 h2 => ?_⟩
    · unfold kvN
      rw [List.length_map, List.length_zip]
      exact szlt (by omega)
    · rw [List.nodup_append]
      exact ⟨l2, by simp, fun b hb c hc e => nin (by rw [← List.mem_singleton.mp hc, ← e]; exact hb)⟩
    · intro z
      rcases List.mem_append.mp z with z | z
      · exact l3 z
      · exact naD (List.mem_singleton.mp z).symm
    · rw [upd_same, putK_new _ (valV_none hnp), tk, kvN_snoc _ _ lt]
    · by_cases hj : j < ads.length
      · rw [List.getElem?_append_left hj] at h1
        obtain ⟨z1, z2, z3⟩ := old j b p h1 h2
        have nb : b ≠ a := fun z => nin (by rw [← z]; exact List.mem_of_getElem? h1)
        have nD : b ≠ D := fun z => l3 (by rw [← z]; exact List.mem_of_getElem? h1)
        exact ⟨by rw [upd_ne nD, upd_ne nb, upd_ne nb]; exact z1, z2, z3⟩
      · rw [List.getElem?_append_right (by omega)] at h1
        have ej : j - ads.length = 0 := by
          have := (List.getElem?_eq_some_iff.mp h1).1
          simp at this; omega
        rw [ej] at h1
        cases h1
        have eji : j = i := by omega
        subst eji
        rw [hx] at h2
        cases h2
        exact ⟨by rw [upd_ne naD, upd_same]; rfl, live_of n23 ha, n3.ok.fresh ha⟩
  · have e : i = ps.length := by omega
    subst e
    refine .inl ⟨by rw [← lm]; exact w.stop S' H' e2 n2.ok, q D S' H' ads (n1.trans n2) (live_of n1 hD) hs' ?_ l1 l2 l3 fun j b p h1 h2 => ?_⟩
    · rw [l4, List.take_length]
    · obtain ⟨z1, z2, z3⟩ := l5 j b p h1 h2
      exact ⟨z1, live_of n1 z2, z3⟩
/-- a map in the making: its near dicts tell n -/
structure Ns (C x dx D : Addr) (fs : List (Str × V)) (ps : List Str) (ads : List Addr) (n : Str → Str → Bool) (b : Nat) (H : Hp) : Prop where
  x : H x = some (.ins C dx (fs ++ [(("own_near" : Str), V.ref D)]))
  d : H D = some (.dK (kvN ps ads))
  a : ∀ (i : Nat) (p : Str) (a : Addr), ps[i]? = some p → ads[i]? = some a → ∃ kvs : List (Key × V), H a = some (.dK kvs) ∧ kvs.length ≤ b ∧ ∀ y : Str, (valV kvs (Sum.inr y)).isSome = n p y
structure Nq (x D : Addr) (ps : List Str) (ads : List Addr) : Prop where
  xd : x ≠ D
  xa : x ∉ ads
  da : D ∉ ads
  nd : ads.Nodup
  ln : ads.length = ps.length
  np : ps.Nodup
theorem Ns.put {C x dx D : Addr} {fs : List (Str × V)} {ps : List Str} {ads : List Addr} {n : Str → Str → Bool} {b : Nat} {H : Hp} (h : Ns C x dx D fs ps ads n b H) (q : Nq x D ps ads) {i : Nat} {p y : Str} {a : Addr} {kvs : List (Key × V)} (hp : ps[i]? = some p) (ha : ads[i]? = some a) (hk : H a = some (.dK kvs)) :
    Ns C x dx D fs ps ads (fun u v => n u v || (decide (u = p) && decide (v = y))) (b + 1) (upd H a (.dK (putK kvs (Sum.inr y) (.bl true)))) := by
  have ma := List.mem_of_getElem? ha
  refine ⟨by rw [upd_ne (fun z : x = a => q.xa (z ▸ ma))]; exact h.x, by rw [upd_ne (fun z : D = a => q.da (z ▸ ma))]; exact h.d, fun j u c h1 h2 => ?_⟩
  by_cases e : j = i
  · subst e
    rw [hp] at h1; cases h1
    rw [ha] at h2; cases h2
    obtain ⟨kvs', z1, z2, z3⟩ := h.a j p a hp ha
    rw [hk] at z1; cases z1
    refine ⟨_, upd_same, Nat.le_trans (putK_le _ _ _) (Nat.succ_le_succ z2), fun v => ?_⟩
    rw [valV_put]
    by_cases ev : v = y
    · subst ev; simp
    · rw [if_neg (fun z => ev (Sum.inr.inj z)), z3 v, decide_eq_false ev, Bool.and_false, Bool.or_false]
  · obtain ⟨kvs', z1, z2, z3⟩ := h.a j u c h1 h2
    have nc : c ≠ a := fun z => by
      obtain ⟨l1, e1⟩ := List.getElem?_eq_some_iff.mp h2
      obtain ⟨l2, e2⟩ := List.getElem?_eq_some_iff.mp ha
      exact e ((List.getElem_inj q.nd).mp (by rw [e1, e2, z]))
    have nu : u ≠ p := fun z => by
      obtain ⟨l1, e1⟩ := List.getElem?_eq_some_iff.mp h1
      obtain ⟨l2, e2⟩ := List.getElem?_eq_some_iff.mp hp
      exact e ((List.getElem_inj q.np).mp (by rw [e1, e2, z]))
    refine ⟨kvs', by rw [upd_ne nc]; exact z1, Nat.le_succ_of_le z2, fun v => ?_⟩
    rw [z3 v, decide_eq_false nu, Bool.false_and, Bool.or_false]
theorem Ns.at_ {C x dx D : Addr} {fs : List (Str × V)} {ps : List Str} {ads : List Addr} {n : Str → Str → Bool} {b : Nat} {H : Hp} (h : Ns C x dx D fs ps ads n b H) (q : Nq x D ps ads) {p : Str} (hp : p ∈ ps) : ∃ (i : Nat) (a : Addr) (kvs : List (Key × V)), ps[i]? = some p ∧ ads[i]? = some a ∧ H a = some (.dK kvs) ∧ kvs.length ≤ b ∧ valV (kvN ps ads) (Sum.inr p) = some (.ref a) := by
  obtain ⟨i, hi, rfl⟩ := List.getElem_of_mem hp
  have h1 : ps[i]? = some ps[i] := List.getElem?_eq_getElem hi
  have h2 : ads[i]? = some (ads[i]'(by rw [q.ln]; exact hi)) := List.getElem?_eq_getElem _
  obtain ⟨kvs, z1, z2, _⟩ := h.a i _ _ h1 h2
  exact ⟨i, _, kvs, h1, h2, z1, z2, valV_kvN q.np h1 h2⟩
open Classical in
/-- what is told for good at the end -/
noncomputable def fin (x D : Addr) (ads : List Addr) (S H : Hp) : Hp := fun a => if a = x ∨ a = D ∨ a ∈ ads then H a else S a
theorem near_at {S : Hp} {n : Str → Str → Bool} : ∀ {ps : List Str} {ads : List Addr}, ads.length = ps.length → (∀ (i : Nat) (p : Str) (a : Addr), ps[i]? = some p → ads[i]? = some a → At S (.ref a) (.keys (n p))) → AtKv S (kvN ps ads) (ps.map fun p => (p, .keys (n p)))
  | [], [], _, _ => .nil
  | [], _ :: _, h, _ => by cases h
  | _ :: _, [], h, _ => by cases h
  | p :: ps, a :: ads, h, hk => .cons (hk 0 p a rfl rfl) (near_at (Nat.succ.inj h) fun i u c h1 h2 => hk (i + 1) u c (by simpa using h1) (by simpa using h2))
theorem Ns.fin {C x dx D : Addr} {fs : List (Str × V)} {ds : List (Str × CW.D)} {ps : List Str} {ads : List Addr} {n : Str → Str → Bool} {b : Nat} {H S : Hp} (h : Ns C x dx D fs ps ads n b H) (q : Nq x D ps ads) (e : Ex S H) (hx : S x = none) (hD : S D = none) (ha : ∀ a ∈ ads, S a = none) (hf : AtFs S fs ds) :
    Ex S (CW.fin x D ads S H) ∧ Ex (CW.fin x D ads S H) H ∧ (∀ a, a ≠ x → a ≠ D → a ∉ ads → CW.fin x D ads S H a = S a) ∧ At (CW.fin x D ads S H) (.ref x) (.ins C (ds ++ [(("own_near" : Str), CW.D.dic (ps.map fun p => (p, CW.D.keys (n p))))])) := by
  have ex : Ex S (CW.fin x D ads S H) := fun a o z => by
    unfold CW.fin
    rw [if_neg]
    · exact z
    · rintro (y | y | y)
      · rw [y, hx] at z; cases z
      · rw [y, hD] at z; cases z
      · rw [ha a y] at z; cases z
  have ix : CW.fin x D ads S H x = H x := if_pos (.inl rfl)
  have iD : CW.fin x D ads S H D = H D := if_pos (.inr (.inl rfl))
  refine ⟨ex, fun a o z => ?_, fun a h1 h2 h3 => ?_, ?_⟩
  · unfold CW.fin at z
    split at z
    · exact z
    · exact e a o z
  · unfold CW.fin
    rw [if_neg]
    rintro (y | y | y)
    · exact h1 y
    · exact h2 y
    · exact h3 y
  · refine .ins (ix.trans h.x) ((hf.mono ex).snoc (.dic (iD.trans h.d) (near_at q.ln fun i p a h1 h2 => ?_)))
    obtain ⟨kvs, z1, _, z3⟩ := h.a i p a h1 h2
    exact .keys ((show CW.fin x D ads S H a = H a from if_pos (.inr (.inr (List.mem_of_getElem? h2)))).trans z1) z3
theorem near_step {ts : List (Str × Str)} {j : Nat} {t : Str × Str} (h : ts[j]? = some t) : nearOf (ts.take (j + 1)) = fun u v => (nearOf (ts.take j) u v || (decide (u = t.1) && decide (v = t.2))) || (decide (u = t.2) && decide (v = t.1)) := by
  funext u v
  unfold nearOf
  rw [List.take_add_one, h, List.any_append]
  have e1 : decide (t = (u, v)) = (decide (u = t.1) && decide (v = t.2)) := by
    rw [← Bool.decide_and]
    exact decide_eq_decide.mpr ⟨fun e => by rw [e]; exact ⟨rfl, rfl⟩, fun ⟨e1, e2⟩ => by rw [e1, e2]⟩
  have e2 : decide (t = (v, u)) = (decide (u = t.2) && decide (v = t.1)) := by
    rw [← Bool.decide_and]
    exact decide_eq_decide.mpr ⟨fun e => by rw [e]; exact ⟨rfl, rfl⟩, fun ⟨e1, e2⟩ => by rw [e1, e2]⟩
  simp only [Option.toList, List.any_cons, List.any_nil, Bool.or_false, e1, e2, Bool.or_assoc]
/-- Map(posts, ties): what __init__ does -/
def spInit (C : Addr) : Sp := fun vs H Q _ => ∃ (x dx : Addr) (p t : V) (ps : List Str) (ts : List (Str × Str)) (S : Hp), vs = [.ref x, p, t] ∧ H x = some (.ins C dx []) ∧ Ok G0 S H ∧ S x = none ∧ At S p (.lst (sS ps)) ∧ At S t (.lst (ts.map tieD)) ∧ PostsOk ps ∧ TiesOk ps ts ∧
  ∀ S2 H2, Ex S S2 → Ex S2 H2 → (∀ a o, a ≠ x → H a = some o → H2 a = some o) → (∀ a, a ≠ x → H a ≠ none → S2 a = S a) → At S2 (.ref x) (chartD C (grOf ps ts)) → Q .non H2
section
variable {P : Program} {w : World} {K : PySem.W.Frag} {mg : Str → Option Value} {base : Heap} {C : Addr} {f : Addr} {fd : FuncData}
theorem sc_m_init : FnScope ["self", "posts", "ties", "path", "one", "other", "post", "number"] ["self", "posts", "ties"] (defScope (mapS 0)) := ⟨rfl, rfl, rfl, by decide +kernel, rfl, by decide +kernel, by decide +kernel⟩
theorem ok_m_init (T : Kx K mg C) (F : FnP K "__init__" "Map.__init__" (mapS 0) f fd) (Gwrong_post : Has P w K mg base "wrong_post" ["posts"] 2 (spF G0 rWrongPost)) (Gwrong_tie : Has P w K mg base "wrong_tie" ["posts", "ties"] 3 (spF G0 rWrongTie)) :
    FnOk P w K mg base CX0 4 f fd ["self", "posts", "ties"] (spInit C) := by
  have nd := (sc_m_init).nd
  have B := T.b
  refine F.ok sc_m_init (fun vs H Q E ⟨_, _, _, _, _, _, _, e, _⟩ => by rw [e]; rfl) fun cdv A outer s H vs Q E hr h => ?_
  have hu := hu_of hr
  refine ⟨_, PSs.nox (pss_cons (ps_set (i := 3) nd rfl (Or.inl rfl) (pe_h Gwrong_post hr (pa_cons (pv 1) pa_nil)))
    (pss_cons (ps_if (pt_cmpR op_isN (pv 3) pe_non (nomark _)) (pss_one (ps_set (i := 3) nd rfl (Or.inl rfl) (pe_h Gwrong_tie hr (pa_cons (pv 1) (pa_cons (pv 2) pa_nil))))) pss_nil)
    (pss_cons (ps_if (pt_cmpR op_notN (pv 3) pe_non (nomark _)) (pss_one ps_never) pss_nil)
    (pss_cons (ps_fld (pv 0) (w_tuple K B (pa_cons (pv 1) pa_nil)) rfl)
    (pss_cons (ps_fld (pv 0) (pe_dc (own := [("number", 7), ("post", 6)]) rfl nd (pi_enum (by rfl) B.enumerate (pa_cons (pv 1) pa_nil)) (blkOk_by (by kernel_rfl)) (fun _ _ _ _ _ => (w_gtup K 2 (pgs_cons (pg_name (i := 7) nd rfl (Or.inl rfl)) (pgs_cons (pg_name (i := 6) nd rfl (Or.inl rfl)) pgs_nil)))) (fun _ _ _ _ _ => pts_nil) (fun _ _ _ _ _ => (pv 6)) (fun _ _ _ _ _ => (pv 7))) rfl)
    (pss_cons (ps_fld (pv 0) (pe_dc (own := [("post", 6)]) rfl nd (w_piL K (pv 1)) (blkOk_by (by kernel_rfl)) (fun _ _ _ _ _ => (pg_name (i := 6) nd rfl (Or.inl rfl))) (fun _ _ _ _ _ => pts_nil) (fun _ _ _ _ _ => (pv 6)) (fun _ _ _ _ _ => (pe_disp (pps_cons (pv 6) pe_bl pps_nil) (by rfl) (by rfl) (fun z => by cases z) (by decide)))) rfl)
    (pss_one (ps_for PassesOwn.never rfl (w_piL K (pv 2)) (pg_tup (by rfl) (pgs_cons (pg_name (i := 4) nd rfl (Or.inl rfl)) (pgs_cons (pg_name (i := 5) nd rfl (Or.inl rfl)) pgs_nil)))
    (pss_cons (ps_dput hu (pe_dget hu (w_fld K (pv 0)) (pv 4) (fun _ _ => rfl)) (pv 5) pe_bl rfl)
    (pss_one (ps_dput hu (pe_dget hu (w_fld K (pv 0)) (pv 5) (fun _ _ => rfl)) (pv 4) pe_bl rfl))))))))))), ?_⟩
  obtain ⟨x, dx, p, t, ps, ts, S, rfl, hx, k, hSx, ap, at_, hp, ht, q⟩ := h
  have hs := hp.sz
  have k0 : Ok G0 S (fun a => if a = x then none else H a) := ⟨fun a o z => by rw [if_neg (fun y => by rw [y, hSx] at z; cases z)]; exact k.ex a o z, trivial, fun _ z => z.elim⟩
  have n0 : Nx G0 S (fun a => if a = x then none else H a) S H := ⟨Ex.refl S, k, fun a o _ z => by
    have z' : (if a = x then none else H a) = some o := z
    split at z'
    · cases z'
    · exact z', fun _ _ => rfl⟩
  have s0 : Sl S (L2.start ["self", "posts", "ties", "path", "one", "other", "post", "number"] [.ref x, p, t]) [some (.opq x), some (.lst (sS ps)), some (.lst (ts.map tieD)), none, none, none, none, none] := ⟨rfl, fun i d h => by
    match i, h with
    | 0, h => cases h; exact ⟨_, rfl, .opq x⟩
    | 1, h => cases h; exact ⟨p, rfl, ap⟩
    | 2, h => cases h; exact ⟨t, rfl, at_⟩
    | 3, h => cases h
    | 4, h => cases h
    | 5, h => cases h
    | 6, h => cases h
    | 7, h => cases h⟩
  have m0 : Mu S H (fun a => if a = x then none else H a) (L2.start ["self", "posts", "ties", "path", "one", "other", "post", "number"] [.ref x, p, t]) [(0, .ins C [])] := ⟨fun i d h => by
    cases List.mem_singleton.mp h
    exact ⟨x, _, rfl, if_pos rfl, hSx, hx, .ins .nil⟩, fun i d j e h1 h2 h3 => by
    cases List.mem_singleton.mp h1; cases List.mem_singleton.mp h2; exact absurd rfl h3, by simp⟩
  refine sv_step (sv_asg (ev_call0 (av_cons (ev_var rfl) av_nil) ⟨ps, rfl, hp.nd, by omega, hp.wd, rfl⟩)) k0 n0 s0 m0 fun σ1 S1 H1 n1 _ s1 m1 => ?_
  refine sv_step (sv_if (k := true) (tv_test (EvD.is (ev_op (ev_var rfl) ev_non rd_isN) rfl)) (fun _ => sv_asg (ev_call0 (av_cons (ev_var rfl) (av_cons (ev_var rfl) av_nil)) ⟨ps, ts, rfl, hp, ht, rfl⟩)) fun h => by cases h) k0 n1 s1 m1 fun σ2 S2 H2 n2 _ s2 m2 => ?_
  refine sv_step (sv_if (k := false) (tv_test (EvD.is (ev_op (ev_var rfl) ev_non rd_notN) rfl)) (fun h => by cases h) fun _ => sv_next) k0 n2 s2 m2 fun σ3 S3 H3 n3 _ s3 m3 => ?_
  refine sv_step (sv_fput (i := 0) rfl (ev_cb (av_cons (ev_var rfl) av_nil) ra_tuple) T.cl T.naP rfl) k0 n3 s3 m3 fun σ4 S4 H4 n4 _ s4 m4 => ?_
  refine sv_step (sv_fput (i := 0) rfl (EvN.ev (ev_dc (xs := ps.zipIdx) (kx := fun q => q.1) (h := fun q => nI q.2) (wv_enumL (av_cons (ev_var rfl) av_nil)) (by rw [show ps.zipIdx.map (fun q => q.1) = ps from by simp]; exact hp.nd) (fun q hq => ⟨_, gv_tup (gs_cons (gv_name (by decide)) (gs_cons (gv_name (by decide)) gs_nil)), ev_var rfl, ev_var rfl⟩) (by rw [List.length_zipIdx]; omega))) T.cl T.naU rfl) k0 n4 s4 m4 fun σ5 S5 H5 n5 _ s5 m5 => ?_
  obtain ⟨x5, o5, g1, g2, g3, g4, g5⟩ := m5.at_ 0 _ List.mem_cons_self
  have ex5 : x5 = x := by
    obtain ⟨v, w1, w2⟩ := s5.at_ 0 (.opq x) rfl
    rw [g1] at w1; cases w1
    cases w2; rfl
  subst ex5
  cases g5 with
  | ins af =>
    rename_i dx5 fs
    have hfs : fs.length = 2 := af.length
    have lk : fs.lookup ("own_near" : Str) = none := af.look_none rfl
    unfold tSeq sFld
    refine near_made (ps := ps) (ρ := [some (.opq x5), some (.lst (sS ps)), some (.lst (ts.map tieD)), some .non, none, none, none, none]) (wv_list (K := K) (ev_var (i := 1) rfl)) ⟨s5.len, fun i d h => s5.at_ i d (by
      match i, h with
      | 0, h => exact h
      | 1, h => exact h
      | 2, h => exact h
      | 3, h => exact h
      | 4, h => cases h
      | 5, h => cases h
      | 6, h => cases h
      | 7, h => cases h)⟩ n5.ok hp.nd (by omega) (by show 6 < 8; decide) fun D S6 H6 ads n6 d1 d2 d3 d4 d5 d6 d7 => ?_
    have hx6 : H6 x5 = some (.ins C dx5 fs) := n6.fr x5 _ (fun z => z) g4
    have hsx6 : S6 x5 = none := (n6.old x5 (by rw [g4]; exact nofun)).trans g3
    refine ⟨_, g1, x5, C, dx5, fs, rfl, hx6, T.cl, T.naN, by omega, ?_⟩
    rw [putF_new lk]
    have nxD : x5 ≠ D := fun z => by rw [← z, g4] at d1; cases d1
    have nxa : x5 ∉ ads := fun z => by
      obtain ⟨i, hi, e⟩ := List.getElem_of_mem z
      have := (d7 i ads[i] ps[i] (List.getElem?_eq_getElem hi) (List.getElem?_eq_getElem (by omega))).2.1
      rw [e, g4] at this; cases this
    have nq : Nq x5 D ps ads := ⟨nxD, nxa, d6, d5, d4, hp.nd⟩
    have n56 := n5.trans n6
    have n7 : Nx G0 S (fun a => if a = x5 then none else H a) S6 (upd H6 x5 (.ins C dx5 (fs ++ [(("own_near" : Str), V.ref D)]))) := n56.mut (if_pos rfl) hsx6 hx6 (fun z => z) k0 _
    have ns0 : Ns C x5 dx5 D fs ps ads (nearOf (ts.take 0)) 1 (upd H6 x5 (.ins C dx5 (fs ++ [(("own_near" : Str), V.ref D)]))) := by
      refine ⟨upd_same, by rw [upd_ne (Ne.symm nxD)]; exact d3, fun i p a h1 h2 => ?_⟩
      have ma : a ≠ x5 := fun z => nxa (z ▸ List.mem_of_getElem? h2)
      refine ⟨_, by rw [upd_ne ma]; exact (d7 i a p h2 h1).1, Nat.le_refl _, fun y => ?_⟩
      show (valV [(Sum.inr p, V.bl true)] (Sum.inr y : Key)).isSome = nearOf [] p y
      unfold nearOf
      by_cases e : p = y
      · subst e; rw [valV_pos rfl]; simp
      · rw [valV_neg (fun z => e (Sum.inr.inj z)), decide_eq_false e]; rfl
    have av : ∀ a ∈ ads, S6 a = none ∧ H5 a = none := fun a ha => by
      obtain ⟨i, hi, rfl⟩ := List.getElem_of_mem ha
      have := d7 i ads[i] ps[i] (List.getElem?_eq_getElem hi) (List.getElem?_eq_getElem (by omega))
      exact ⟨this.2.2, this.2.1⟩
    have h0a : ∀ a, H5 a = none → (fun a => if a = x5 then none else H a) a = none := fun a e => live_of n5 e
    have s7 : Sl S6 σ5 [some (.opq x5), some (.lst (sS ps)), some (.lst (ts.map tieD)), none, none, none, none, none] := ⟨s5.len, fun i d h => (s5.mono n6.ex).at_ i d (by
      match i, h with
      | 0, h => exact h
      | 1, h => exact h
      | 2, h => exact h
      | 3, h => cases h
      | 4, h => cases h
      | 5, h => cases h
      | 6, h => cases h
      | 7, h => cases h)⟩
    dsimp only
    unfold tFor
    refine wv_list (ds := ts.map tieD) (ev_var (i := 2) rfl) σ5 S6 _ s7 n7.ok _ fun J S8 H8 n8 wk => ?_
    have lm : (ts.map tieD).length = ts.length := List.length_map ..
    have e8 : ∀ a o, (upd H6 x5 (.ins C dx5 (fs ++ [(("own_near" : Str), V.ref D)]))) a = some o → H8 a = some o := fun a o z => n8.fr a o (fun y => y) z
    have ns8 : Ns C x5 dx5 D fs ps ads (nearOf (ts.take 0)) 1 H8 := ⟨e8 _ _ ns0.x, e8 _ _ ns0.d, fun i p a h1 h2 => let ⟨kvs, z1, z2, z3⟩ := ns0.a i p a h1 h2; ⟨kvs, e8 _ _ z1, z2, z3⟩⟩
    have nS : ∀ {S' H' : Hp}, Nx G0 S6 (upd H6 x5 (.ins C dx5 (fs ++ [(("own_near" : Str), V.ref D)]))) S' H' → S' x5 = none ∧ S' D = none ∧ ∀ a ∈ ads, S' a = none := fun {S' H'} n => by
      refine ⟨(n.old x5 (by rw [upd_same]; exact nofun)).trans hsx6, (n.old D (by rw [upd_ne (Ne.symm nxD), d3]; exact nofun)).trans d2, fun a ha => (n.old a ?_).trans (av a ha).1⟩
      obtain ⟨i, hi, rfl⟩ := List.getElem_of_mem ha
      have := d7 i ads[i] ps[i] (List.getElem?_eq_getElem hi) (List.getElem?_eq_getElem (by omega))
      rw [upd_ne (fun z : ads[i] = x5 => nxa (by rw [← z]; exact List.getElem_mem hi)), this.1]; exact nofun
    have hts := ht.sz
    refine ⟨fun i m σ' H' => m = ts.length - i ∧ i ≤ ts.length ∧ ∃ S', Nx G0 S (fun a => if a = x5 then none else H a) S' H' ∧ Ex S8 S' ∧ (S' x5 = none ∧ S' D = none ∧ ∀ a ∈ ads, S' a = none) ∧ Sl S' σ' [some (.opq x5), some (.lst (sS ps)), some (.lst (ts.map tieD)), none, none, none, none, none] ∧ Ns C x5 dx5 D fs ps ads (nearOf (ts.take i)) (1 + 2 * i) H',
      ⟨ts.length, rfl, Nat.zero_le _, S8, n7.trans n8, Ex.refl _, nS n8, s7.mono n8.ex, ns8⟩, ?_⟩
    rintro i m σ' H' ⟨rfl, hi, S', n', e', nn', s', ns'⟩
    by_cases hlt : i < ts.length
    · refine .inr ⟨wk.go i S' H' (by rw [lm]; exact hlt) e' n'.ok, fun σ2 H2 => i + 1 ≤ ts.length ∧ ∃ S2, Nx G0 S (fun a => if a = x5 then none else H a) S2 H2 ∧ Ex S8 S2 ∧ (S2 x5 = none ∧ S2 D = none ∧ ∀ a ∈ ads, S2 a = none) ∧ Sl S2 σ2 [some (.opq x5), some (.lst (sS ps)), some (.lst (ts.map tieD)), none, none, none, none, none] ∧ Ns C x5 dx5 D fs ps ads (nearOf (ts.take (i + 1))) (1 + 2 * (i + 1)) H2,
        fun σ2 H2 z => ⟨ts.length - (i + 1), by omega, rfl, z⟩, fun v H2 y => ?_⟩
      obtain ⟨S3, d, n3', hd, ad⟩ := wk.yld i v S' H' H2 (by rw [lm]; exact hlt) e' n'.ok y
      have hx : ts[i]? = some ts[i] := List.getElem?_eq_getElem hlt
      rw [List.getElem?_map, hx] at hd
      cases hd
      have on := ht.on ts[i] (List.getElem_mem hlt)
      refine gv_tup (K := K) (vs := [4, 5]) (gs_cons (gv_name (i := 4) (by decide)) (gs_cons (gv_name (i := 5) (by decide)) gs_nil)) rfl v σ' S3 H2 ad (s'.mono n3'.ex) n3'.ok _ fun σ3 s3 l3 ag3 => ?_
      have e3 : ∀ a o, H' a = some o → H2 a = some o := fun a o z => n3'.fr a o (fun y => y) z
      have ns2 : Ns C x5 dx5 D fs ps ads (nearOf (ts.take i)) (1 + 2 * i) H2 := ⟨e3 _ _ ns'.x, e3 _ _ ns'.d, fun i p a h1 h2 => let ⟨kvs, z1, z2, z3⟩ := ns'.a i p a h1 h2; ⟨kvs, e3 _ _ z1, z2, z3⟩⟩
      have n13 := n'.trans n3'
      have nn3 : S3 x5 = none ∧ S3 D = none ∧ ∀ a ∈ ads, S3 a = none := by
        refine ⟨(n3'.old x5 (by rw [ns'.x]; exact nofun)).trans nn'.1, (n3'.old D (by rw [ns'.d]; exact nofun)).trans nn'.2.1, fun a ha => (n3'.old a ?_).trans (nn'.2.2 a ha)⟩
        obtain ⟨j, hj, rfl⟩ := List.getElem_of_mem ha
        obtain ⟨kvs, z1, _⟩ := ns'.a j ps[j] ads[j] (List.getElem?_eq_getElem (by omega)) (List.getElem?_eq_getElem hj)
        rw [z1]; exact nofun
      have v0 : σ3[0]? = some (some (.ref x5)) := by
        obtain ⟨u, w1, w2⟩ := s3.at_ 0 (.opq x5) rfl
        cases w2; exact w1
      have v4 : σ3[4]? = some (some (.str ts[i].1)) := by
        obtain ⟨u, w1, w2⟩ := s3.at_ 4 (.str ts[i].1) rfl
        cases w2; exact w1
      have v5 : σ3[5]? = some (some (.str ts[i].2)) := by
        obtain ⟨u, w1, w2⟩ := s3.at_ 5 (.str ts[i].2) rfl
        cases w2; exact w1
      have fl : (fs ++ [(("own_near" : Str), V.ref D)]).lookup ("own_near" : Str) = some (.ref D) := by
        rw [List.lookup_append, lk]; rfl
      obtain ⟨i1, a1, kv1, p1, p2, p3, p4, p5⟩ := ns2.at_ nq on.1
      have ns3 := ns2.put nq (y := ts[i].2) p1 p2 p3
      have ha1 := List.mem_of_getElem? p2
      have n14 : Nx G0 S (fun a => if a = x5 then none else H a) S3 (upd H2 a1 (.dK (putK kv1 (Sum.inr ts[i].2) (.bl true)))) := n13.mut (h0a a1 (av a1 ha1).2) (nn3.2.2 a1 ha1) p3 (fun z => z) k0 _
      obtain ⟨i2, a2, kv2, q1, q2, q3, q4, q5⟩ := ns3.at_ nq on.2.1
      have ns4 := ns3.put nq (y := ts[i].1) q1 q2 q3
      have ha2 := List.mem_of_getElem? q2
      have n15 := n14.mut (h0a a2 (av a2 ha2).2) (nn3.2.2 a2 ha2) q3 (fun z => z) k0 (.dK (putK kv2 (Sum.inr ts[i].1) (.bl true)))
      refine ⟨_, v0, x5, C, dx5, _, .ref D, rfl, ns2.x, T.cl, T.naN, fl, _, v4, D, .ref a1, rfl, by rw [← p5]; exact DGet.k (k := Sum.inr ts[i].1) ns2.d, _, v5, a1, _, rfl, DPut.k (k := Sum.inr ts[i].2) p3 (szlt (by omega)), ?_⟩
      refine ⟨_, v0, x5, C, dx5, _, .ref D, rfl, ns3.x, T.cl, T.naN, fl, _, v5, D, .ref a2, rfl, by rw [← q5]; exact DGet.k (k := Sum.inr ts[i].2) ns3.d, _, v4, a2, _, rfl, DPut.k (k := Sum.inr ts[i].1) q3 (szlt (by omega)), ?_⟩
      refine ⟨hlt, S3, n15, e'.trans n3'.ex, nn3, ⟨s3.len, fun j d h => s3.at_ j d (by
        match j, h with
        | 0, h => exact h
        | 1, h => exact h
        | 2, h => exact h
        | 3, h => cases h
        | 4, h => cases h
        | 5, h => cases h
        | 6, h => cases h
        | 7, h => cases h)⟩, ?_⟩
      rw [near_step hx]
      exact ⟨ns4.x, ns4.d, fun i p a h1 h2 => let ⟨kvs, z1, z2, z3⟩ := ns4.a i p a h1 h2; ⟨kvs, z1, by omega, z3⟩⟩
    · have ei : i = ts.length := by omega
      subst ei
      rw [List.take_length] at ns'
      obtain ⟨f1, f2, f3, f4⟩ := ns'.fin nq n'.ok.ex nn'.1 nn'.2.1 nn'.2.2 (af.mono (n6.ex.trans (n8.ex.trans e')))
      refine .inl ⟨by rw [← lm]; exact wk.stop S' H' e' n'.ok, ?_⟩
      have hh : ∀ {a : Addr}, a ≠ x5 → H a ≠ none → (fun a => if a = x5 then none else H a) a ≠ none := fun ne z => by
        show (if _ then _ else _) ≠ none
        rw [if_neg ne]; exact z
      have nD : ∀ {a : Addr}, a ≠ x5 → H a ≠ none → a ≠ D ∧ a ∉ ads := fun ne z => by
        refine ⟨fun y => hh ne z (by rw [y]; exact h0a D d1), fun y => hh ne z (h0a _ (av _ y).2)⟩
      refine q _ H' (n'.ex.trans f1) f2 (fun a o ne z => n'.fr a o (fun y => y) (by show (if _ then _ else _) = _; rw [if_neg ne]; exact z)) (fun a ne z => ?_) ?_
      · rw [f3 a ne (nD ne z).1 (nD ne z).2]
        exact n'.old a (hh ne z)
      · exact f4
end
end CW
/-! P10 -/
/-! P10: a map made. -/
namespace CW
open PySem PySem.Spec PyProof.Rows L2
theorem ev_make {Γ : Gam} {ρ : Rho} {t : TA} {C : Addr} {E : XK} {ps : List Str} {ts : List (Str × Str)} (ha : AvD Γ t ρ [.lst (sS ps), .lst (ts.map tieD)]) (hp : PostsOk ps) (ht : TiesOk ps ts) : EvD Γ (tMake C (spInit C) [] E t) ρ (chartD C (grOf ps ts)) := fun σ S H s k Q q =>
  ha σ S H s k _ fun vs S1 H1 n1 al x dx hx hdx hne => by
    cases al with
    | cons a1 al =>
      cases al with
      | cons a2 al =>
        cases al
        have k1 := n1.ok
        have n2 : Nx Γ S1 H1 S1 (upd H1 dx (.own x)) := .hid k1 hdx _
        have hx2 : upd H1 dx (.own x) x = none := by rw [upd_ne (Ne.symm hne)]; exact hx
        have n3 : Nx Γ S1 H1 S1 (upd (upd H1 dx (.own x)) x (.ins C dx [])) := n2.trans (.hid n2.ok hx2 _)
        have sx := k1.fresh hx
        refine ⟨x, dx, _, _, ps, ts, S1, rfl, upd_same, n3.ok.g0, sx, a1, a2, hp, ht, fun S2 H2 e1 e2 f1 f2 f3 => ⟨rfl, ?_⟩⟩
        have lx : ∀ a, H1 a ≠ none → a ≠ x := fun a z y => z (y ▸ hx)
        have ld : ∀ a, H1 a ≠ none → a ≠ dx := fun a z y => z (y ▸ hdx)
        have up : ∀ a, H1 a ≠ none → upd (upd H1 dx (.own x)) x (.ins C dx []) a = H1 a := fun a z => by rw [upd_ne (lx a z), upd_ne (ld a z)]
        have kp : ∀ a o, H1 a = some o → H2 a = some o := fun a o z => f1 a o (lx a (by rw [z]; exact nofun)) ((up a (by rw [z]; exact nofun)).trans z)
        have old : ∀ a, H1 a ≠ none → S2 a = S1 a := fun a z => f2 a (lx a z) (by rw [up a z]; exact z)
        exact q _ S2 H2 (n1.trans ⟨e1, ⟨e2, Γ.st H1 H2 (fun a o z _ => kp a o z) k1.j, fun b hb => (old b (Γ.lv H1 b k1.j hb)).trans (k1.off b hb)⟩, fun a o _ z => kp a o z, old⟩) f3
end CW
/-! P11 -/
/-! P11: the law's own looks at a world. -/
namespace CW
open PySem PySem.Spec PyProof.Rows L2
abbrev worldD (C : Addr) (ps : List Str) (ts : List (Str × Str)) : D := .dic [("posts", .lst (sS ps)), ("ties", .lst (ts.map tieD)), ("map", chartD C (grOf ps ts))]
structure WOk (ps : List Str) (ts : List (Str × Str)) : Prop where
  p : PostsOk ps
  t : TiesOk ps ts
theorem WOk.g {ps : List Str} {ts : List (Str × Str)} (h : WOk ps ts) : (grOf ps ts).Ok := grOf_ok ts h.p
theorem rd_inD {Γ : Gam} {K : PySem.W.Frag} {β : Type} [DecidableEq β] {enc : β → D} {Pr : β → Prop} {x : β} {xs : List β} {k : Nat} (h : EqOn enc Pr) (hx : Pr x) (hxs : ∀ y ∈ xs, Pr y) (kx : Eqk k (enc x)) (ky : Eqk (k + 1) (.lst (xs.map enc))) (hk : Nat.ble (k + 1) 64 = true := by rfl) :
    RD2 Γ (rInD K) (enc x) (.lst (xs.map enc)) (.bl (decide (x ∈ xs))) := fun v y S H a b kk Q q => by
  have e1 : (CW.D.lst (xs.map enc)).py = .list (xs.map fun z => (enc z).py) := by rw [D.py, pyAll_map]
  have d2 := (b.mono kk.ex).dp (K := K) ky.ok
  rw [e1] at d2
  have kb := ky.b hk
  have kb2 : SeqAt.shaped (.list (xs.map fun z => (enc z).py)) = true := by rw [← e1]; exact kb.shaped
  refine ⟨(enc x).py, _, (a.mono kk.ex).dp kx.ok, d2, Eqb.shaped ⟨kx.ok, Nat.le_trans kx.dep (Nat.le_trans (Nat.le_succ _) (Nat.le_of_ble_eq_true hk))⟩, kb2, ?_⟩
  have e2 : ((xs.map fun z => (enc z).py).any fun z => PyData.eqv z (enc x).py) = decide (x ∈ xs) := by
    clear d2 kb kb2 ky e1 b q
    induction xs with
    | nil => simp
    | cons z xs ih =>
      rw [List.map_cons, List.any_cons, ih (fun y hy => hxs y (List.mem_cons_of_mem _ hy)), h z x (hxs z List.mem_cons_self) hx]
      by_cases e : z = x
      · subst e; simp
      · have e' : ¬ x = z := fun q => e q.symm
        simp [e, e']
  rw [e2]
  exact q _ S H (.refl kk) (.bl _)
theorem w_inD {X : Cx} (K : PySem.W.Frag) {j : Nat} (hr : Room j X.A) (h : X.K = K := by rfl) : OpR X (compareOp .In) (rInD K) := h ▸ op_inD (by have := hr.un; omega)
theorem eqOn_tie : EqOn tieD (fun _ => True) := fun a b _ _ => by
  obtain ⟨a1, a2⟩ := a
  obtain ⟨b1, b2⟩ := b
  simp only [D.py, pyAll, PyData.eqv, PyData.eqvAll]
  by_cases e1 : a1 = b1
  · by_cases e2 : a2 = b2
    · subst e1; subst e2; simp
    · simp [e1, e2]
  · simp [e1]
theorem eqk_tie {t : Str × Str} (h1 : Word t.1) (h2 : Word t.2) : Eqk 1 (tieD t) := eqk_tup (xs := [t.1, t.2]) fun x hx => by
  rcases List.mem_cons.mp hx with rfl | hx
  · exact eqk_str h1.ok
  · rw [List.mem_singleton.mp hx]; exact eqk_str h2.ok
theorem eqk_ties {ps : List Str} {ts : List (Str × Str)} (h : WOk ps ts) : Eqk 2 (.lst (ts.map tieD)) := eqk_lst fun t ht => eqk_tie (h.p.wd _ (h.t.on t ht).1) (h.p.wd _ (h.t.on t ht).2.1)
def rLNear (C : Addr) (as : List D) (d : D) : Prop := ∃ (ps : List Str) (ts : List (Str × Str)) (x y : Str), WOk ps ts ∧ as = [worldD C ps ts, .str x, .str y] ∧ x ∈ ps ∧ y ∈ ps ∧ d = .bl (nearOf ts x y)
def rLCrowd (C : Addr) (as : List D) (d : D) : Prop := ∃ (ps : List Str) (ts : List (Str × Str)) (xs : List Str), WOk ps ts ∧ (as = [worldD C ps ts, .lst (sS xs)] ∨ as = [worldD C ps ts, .tup (sS xs)]) ∧ (∀ x ∈ xs, x ∈ ps) ∧ xs.length ≤ 100 ∧ d = .bl (CT.areNear (nearOf ts) xs)
section
variable {P : Program} {w : World} {K : PySem.W.Frag} {mg : Str → Option Value} {base : Heap} {C : Addr} {f : Addr} {fd : FuncData}
theorem sc__law_is_near : FnScope ["_law_world", "_law_one", "_law_other"] ["_law_world", "_law_one", "_law_other"] (defScope (topS 56)) := ⟨rfl, rfl, rfl, by decide +kernel, rfl, by decide +kernel, by decide +kernel⟩
theorem ok__law_is_near (T : Kx K mg C) (F : FnP K "_law_is_near" "_law_is_near" (topS 56) f fd) : FnOk P w K mg base CX0 1 f fd ["_law_world", "_law_one", "_law_other"] (spF G0 (rLNear C)) := by
  have nd := (sc__law_is_near).nd
  refine fn_ok F sc__law_is_near (fun as d ⟨_, _, _, _, _, e, _⟩ => by rw [e]; rfl) fun cdv A outer s H E hr => ?_
  have hu := hu_of hr
  refine ⟨_, (pss_one (ps_ret (pe_or (pe_cmpR op_eq (pv 1) (pv 2) (nomark _)) (pe_or (pe_cmpR (w_inD K hr) (pe_tup (pa_cons (pv 1) (pa_cons (pv 2) pa_nil))) (pe_dget hu (pv 0) pe_str (fun _ _ => rfl)) rfl) (pe_one (pe_cmpR (w_inD K hr) (pe_tup (pa_cons (pv 2) (pa_cons (pv 1) pa_nil))) (pe_dget hu (pv 0) pe_str (fun _ _ => rfl)) rfl)))))), ?_⟩
  rintro as d ⟨ps, ts, x, y, hw, rfl, hx, hy, rfl⟩
  have kx := hw.p.wd x hx
  have ky := hw.p.wd y hy
  refine SvD.e <| sv_ret (EvD.is (ev_orV (ev_op (ev_var rfl) (ev_var rfl) rd_eqS) fun _ => ev_orV
    (ev_op (ev_tup (av_cons (ev_var rfl) (av_cons (ev_var rfl) av_nil))) (ev_dget (ev_var rfl) ev_str rfl) (rd_inD (x := (x, y)) (enc := tieD) eqOn_tie trivial (fun _ _ => trivial) (eqk_tie kx ky) (eqk_ties hw))) fun _ =>
    (ev_op (ev_tup (av_cons (ev_var rfl) (av_cons (ev_var rfl) av_nil))) (ev_dget (ev_var rfl) ev_str rfl) (rd_inD (x := (y, x)) (enc := tieD) eqOn_tie trivial (fun _ _ => trivial) (eqk_tie ky kx) (eqk_ties hw)))) ?_)
  unfold nearOf
  have e : (ts.any fun t => decide (t = (x, y)) || decide (t = (y, x))) = (decide ((x, y) ∈ ts) || decide ((y, x) ∈ ts)) := by
    rw [Bool.eq_iff_iff]
    simp only [List.any_eq_true, Bool.or_eq_true, decide_eq_true_eq]
    constructor
    · rintro ⟨t, ht, rfl | rfl⟩
      · exact .inl ht
      · exact .inr ht
    · rintro (h | h)
      · exact ⟨_, h, .inl rfl⟩
      · exact ⟨_, h, .inr rfl⟩
  rw [e]
  exact congrArg D.bl (by rw [Bool.eq_iff_iff]; simp only [Bool.or_eq_true, decide_eq_true_eq])
theorem filt_nil {α : Type} (p : α → Bool) (xs : List α) : (xs.filter p).isEmpty = xs.all fun x => !p x := by
  induction xs with
  | nil => rfl
  | cons x xs ih => cases h : p x <;> simp [List.filter_cons, h, ih]
theorem sc__law_is_crowd : FnScope ["_law_world", "_law_posts", "_law_one", "_law_other"] ["_law_world", "_law_posts"] (defScope (topS 57)) := ⟨rfl, rfl, rfl, by decide +kernel, rfl, by decide +kernel, by decide +kernel⟩
theorem ok__law_is_crowd (T : Kx K mg C) (F : FnP K "_law_is_crowd" "_law_is_crowd" (topS 57) f fd) (G_law_is_near : Has P w K mg base "_law_is_near" ["_law_world", "_law_one", "_law_other"] 1 (spF G0 (rLNear C))) : FnOk P w K mg base CX0 2 f fd ["_law_world", "_law_posts"] (spF G0 (rLCrowd C)) := by
  have nd := (sc__law_is_crowd).nd
  refine fn_ok F sc__law_is_crowd (fun as d ⟨_, _, _, _, e, _⟩ => by rcases e with e | e <;> (rw [e]; rfl)) fun cdv A outer s H E hr => ?_
  refine ⟨_, (pss_one (ps_ret (pe_cmpR (w_eqD K hr) (pe_lc (own := [("_law_one", 2)]) rfl nd (w_piS K (pv 1)) (blkOk_by (by kernel_rfl)) (fun _ _ _ _ _ => (pg_name (i := 2) nd rfl (Or.inr rfl))) (fun _ _ _ _ _ => pts_one (pt_cmpR (w_neD K hr) (pe_lc (own := [("_law_other", 3)]) rfl nd (w_piS K (pv 1)) (blkOk_by (by kernel_rfl)) (fun _ _ _ _ _ => (pg_name (i := 3) nd rfl (Or.inl rfl))) (fun _ _ _ _ _ => pts_one (pt_not (pt_val (pe_h G_law_is_near hr (pa_cons (pv 0) (pa_cons (pv 2) (pa_cons (pv 3) pa_nil))))))) (fun _ _ _ _ _ => (pv 3))) (pe_lst pa_nil) (nomark _))) (fun _ _ _ _ _ => (pv 2))) (pe_lst pa_nil) (nomark _)))), ?_⟩
  rintro as d ⟨ps, ts, xs, hw, he, hx, hz, rfl⟩
  have g := hw.g
  obtain ⟨v, rfl, hv⟩ : ∃ v, as = [worldD C ps ts, v] ∧ ∀ ρ : Rho, ρ[1]? = some (some v) → WvD G0 (iSeq K (tVar 1)) ρ (xs.map .str) := by
    rcases he with rfl | rfl
    · exact ⟨_, rfl, fun ρ h => wv_seqL (ev_var h)⟩
    · exact ⟨_, rfl, fun ρ h => wv_seqT (ev_var h)⟩
  have sub : ∀ {p : Str → Bool}, ∀ y ∈ xs.filter p, y ∈ (grOf ps ts).ps := fun y hy => hx y (List.mem_filter.mp hy).1
  refine SvD.e <| sv_ret (EvD.is (ev_op (EvN.ev (ev_lcF (xs := xs) (enc := .str) (f := fun a => !(xs.filter fun b => !nearOf ts a b).isEmpty) (hv _ rfl) (fun a ha => ⟨_, gv_name (by decide), tv_test (ev_op (EvN.ev (ev_lcF (xs := xs) (enc := .str) (f := fun b => !nearOf ts a b) (hv _ rfl)
    (fun b hb => ⟨_, gv_name (by decide), tv_not (tv_B (ev_call0 (av_cons (ev_var rfl) (av_cons (ev_var rfl) (av_cons (ev_var rfl) av_nil))) ⟨ps, ts, a, b, hw, rfl, hx a ha, hx b hb, rfl⟩)), fun _ => ev_var rfl⟩) (by omega))) (ev_lst av_nil) (rd_notNil (eqk_posts g sub))), fun _ => ev_var rfl⟩) (by omega))) (ev_lst av_nil) (rd_isNil (eqk_posts g sub))) ?_)
  have e : ((xs.filter fun a => !(xs.filter fun b => !nearOf ts a b).isEmpty).isEmpty) = CT.areNear (nearOf ts) xs := by
    rw [filt_nil, Bool.eq_iff_iff, CT.areNear_iff, List.all_eq_true]
    constructor
    · intro h a ha b hb
      have := h a ha
      rw [Bool.not_not, filt_nil, List.all_eq_true] at this
      simpa using this b hb
    · intro h a ha
      rw [Bool.not_not, filt_nil, List.all_eq_true]
      intro b hb
      simpa using h a ha b hb
  rw [e]
end
end CW
/-! W12 -/
/-! W12: values wholly new; two new objects by a tuple. -/
namespace CW
open PySem PySem.Spec PyProof.Rows L2
/-- of S the objects that H had not -/
def Nw (H S : Hp) : Hp := fun a => match H a with
  | none => S a
  | some _ => none
theorem Nw.sub {H S : Hp} : Ex (Nw H S) S := fun a o h => by
  unfold Nw at h
  split at h
  · exact h
  · cases h
theorem Nw.mono {H S H2 S2 : Hp} (h : ∀ a, H a ≠ none → H2 a ≠ none) (e : Ex S S2) : Ex (Nw H2 S) (Nw H S2) := fun a o z => by
  unfold Nw at z ⊢
  cases q : H a with
  | none =>
    cases q2 : H2 a with
    | none => rw [q2] at z; exact e a o z
    | some u => rw [q2] at z; cases z
  | some u =>
    cases q2 : H2 a with
    | none => exact absurd q2 (h a (by rw [q]; exact nofun))
    | some u2 => rw [q2] at z; cases z
theorem Nw.at_ {H S : Hp} {a : Addr} (h : H a = none) : Nw H S a = S a := by unfold Nw; rw [h]
/-- evaluates to d, all its objects new -/
def EvF (Γ : Gam) (te : TE) (ρ : Rho) (d : D) : Prop := ∀ (σ : L2.St) (S H : Hp), Sl S σ ρ → Ok Γ S H → ∀ Q : VK, (∀ v S2 H2, Nx Γ S H S2 H2 → At (Nw H S2) v d → Q v H2) → te σ H Q
section
variable {Γ : Gam} {ρ : Rho} {te ta tb : TE} {wi : TI} {g : TG} {β : Type} {xs : List β} {enc : β → D} {vs : List Nat} {h : β → D} {d e : D} {μ : Mus} {i j : Nat}
theorem EvF.ev (he : EvF Γ te ρ d) : EvD Γ te ρ d := fun σ S H s k Q q => he σ S H s k Q fun v S2 H2 n a => q v S2 H2 n (a.mono Nw.sub)
theorem EvN.f (he : EvN Γ te ρ d) (hd : d.flat = true) : EvF Γ te ρ d := fun σ S H s k Q q => he σ S H s k Q fun p S2 H2 o n hp hs ho a =>
  q _ _ _ (n.freeze hp hs ho k) ((a.sc hd).at_ (by rw [Nw.at_ hp, upd_same]))
theorem sv_asgFF (he : EvF Γ te (frz ρ μ) d) (hi : isIn μ i = false := by rfl) : SvD Γ (tAsg te (gName i)) ρ μ (.nx (ρ.set i (some d)) μ) := fun S0 H0 F S H σ k0 n f s m Dn q => by
  obtain ⟨S', n', e', s', _⟩ := m.frz k0 n s
  refine he σ S' H s' n'.ok _ fun v S2 H2 n2 a => ?_
  have m2 := m.back k0 n2
  have exS : Ex S (fun a => match H a with | none => S2 a | some _ => S a) := fun a o z => by
    show (match H a with | none => S2 a | some _ => S a) = some o
    rw [n.ok.ex a o z]; exact z
  have exN : Ex (Nw H S2) (fun a => match H a with | none => S2 a | some _ => S a) := fun a o z => by
    unfold Nw at z
    show (match H a with | none => S2 a | some _ => S a) = some o
    split at z
    · exact z
    · cases z
  have n3 : Nx Γ S0 H0 (fun a => match H a with | none => S2 a | some _ => S a) H2 := by
    have nb := n.back k0 n2
    refine ⟨n.ex.trans exS, ⟨fun a o z => ?_, n2.ok.j, fun b hb => ?_⟩, nb.fr, fun a ha => ?_⟩
    · have z' : (match H a with | none => S2 a | some _ => S a) = some o := z
      split at z'
      · exact n2.ok.ex a o z'
      · exact nb.ok.ex a o z'
    · show (match H b with | none => S2 b | some _ => S b) = none
      cases y : H b with
      | none => exact absurd y (Γ.lv H b n.ok.j hb)
      | some u => exact n.ok.off b hb
    · show (match H a with | none => S2 a | some _ => S a) = S0 a
      cases y : H a with
      | none => exact absurd y (n.live ha)
      | some u => exact n.old a ha
  refine q _ _ H2 n3 (f.trans exS) ((s.mono exS).set i (a.mono exN)) ?_
  have m3 := m2.set (not_in hi) (some v)
  refine ⟨fun l x hl => ?_, m3.ds, m3.nd⟩
  obtain ⟨p, o, g1, g2, g3, g4, g5⟩ := m3.at_ l x hl
  obtain ⟨p4, o4, b1, _, b3, b4, _⟩ := m.at_ l x hl
  have il : i ≠ l := fun z => not_in hi (List.mem_map.mpr ⟨_, hl, z.symm⟩)
  rw [List.getElem?_set_ne il, b1] at g1
  cases g1
  refine ⟨p, o, by rw [List.getElem?_set_ne il]; exact b1, g2, ?_, g4, g5.mono exS⟩
  show (match H p with | none => S2 p | some _ => S p) = none
  rw [b4]; exact b3
/-- [new for ..] -/
theorem ev_lcFF (hw : WvD Γ wi ρ (xs.map enc)) (hb : ∀ x ∈ xs, ∃ ρ', GvD Γ g vs (wipeD ρ vs) (enc x) ρ' ∧ EvF Γ te ρ' (h x)) (hz : xs.length ≤ 90000) : EvF Γ (tLc wi g tYes te vs) ρ (.lst (xs.map h)) := fun σ S H s k Q q => hw σ S H s k _ fun J S1 H1 n1 w => by
  intro Dl hD
  have hS1 := n1.ok.fresh hD
  have hH := live_of n1 hD
  refine ⟨fun i m H' => m = xs.length - i ∧ i ≤ xs.length ∧ ∃ S' acc, Nx Γ S1 H1 S' H' ∧ S' Dl = none ∧ H' Dl = some (.lst acc) ∧ AtAll (Nw H S') acc ((xs.take i).map h),
    ⟨xs.length, rfl, Nat.zero_le _, S1, [], .hid n1.ok hD _, hS1, upd_same, by simpa using AtAll.nil⟩, ?_⟩
  rintro i m H' ⟨rfl, hi, S', acc, n2, hs, hd, al⟩
  have e2 := n2.ex
  by_cases hlt : i < xs.length
  · refine .inr ⟨w.go i S' H' (by simpa using hlt) e2 n2.ok, fun H'' => i + 1 ≤ xs.length ∧ ∃ S' acc, Nx Γ S1 H1 S' H'' ∧ S' Dl = none ∧ H'' Dl = some (.lst acc) ∧ AtAll (Nw H S') acc ((xs.take (i + 1)).map h),
      fun H'' z => ⟨xs.length - (i + 1), by omega, rfl, z.1, z.2⟩, fun x H'' y => ?_⟩
    obtain ⟨S3, d, n3, hdx, ad⟩ := w.yld i x S' H' H'' (by simpa using hlt) e2 n2.ok y
    have hx : xs[i]? = some xs[i] := List.getElem?_eq_getElem hlt
    rw [List.getElem?_map, hx] at hdx
    cases hdx
    obtain ⟨ρ', hg, he⟩ := hb xs[i] (List.getElem_mem hlt)
    have sW : Sl S3 (L2.wipe σ vs) (wipeD ρ vs) := (s.mono (n1.ex.trans (e2.trans n3.ex))).wipe vs
    refine hg x _ S3 H'' ad sW n3.ok _ fun σ2 s2 l2 ag => ⟨by rw [wipe_agree (τ := L2.wipe σ vs) l2 ag, wipe_wipe], ?_⟩
    show te σ2 H'' _
    refine he σ2 S3 H'' s2 n3.ok _ fun v S5 H5 n5 a5 => ?_
    have n35 := n3.trans n5
    have hd5 : H5 Dl = some (.lst acc) := n35.fr _ _ (n1.ok.nb hD) hd
    have hs5 : S5 Dl = none := (n35.old Dl (by rw [hd]; exact fun z => nomatch z)).trans hs
    have tk : xs.take (i + 1) = xs.take i ++ [xs[i]] := by rw [List.take_add_one, hx]; rfl
    have li := al.length
    rw [List.length_map, List.length_take] at li
    refine ⟨acc, hd5, szlt (by omega), hlt, S5, acc ++ [v], (n2.trans n35).mut hD hs5 hd5 (fun z => z) n1.ok _, hs5, upd_same, ?_⟩
    rw [tk, List.map_append]
    exact (al.mono (Nw.mono (fun _ z => z) n35.ex)).append (.cons (a5.mono (Nw.mono (fun a z => ((n1.trans n2).trans n3).live z) (Ex.refl _))) .nil)
  · have e : i = xs.length := by omega
    subst e
    rw [List.take_length] at al
    have nf := (n1.trans n2).freeze hH hs hd k
    refine .inl ⟨by simpa using w.stop S' H' e2 n2.ok, q _ (upd S' Dl (.lst acc)) H' nf (.lst (by rw [Nw.at_ hH, upd_same]) (al.mono (Nw.mono (fun _ z => z) (Ex.new hs))))⟩
/-- a, b = (new, new), a tuple made -/
theorem sv_two (ha : EvN Γ ta ρ d) (hb : EvN Γ tb ρ e) {K : PySem.W.Frag} {n : Nat} (hn : n = 2) (hij : i ≠ j := by decide) (hl : Nat.blt i ρ.length = true := by rfl) (hl2 : Nat.blt j ρ.length = true := by rfl) (hi : isIn μ i = false := by rfl) (hj : isIn μ j = false := by rfl) :
    SvD Γ (tAsg (tTup (tCons ta (tCons tb tNil))) (gTup K n (gCons (gName i) (gCons (gName j) gNil)))) ρ μ (.nx ((ρ.set i none).set j none) ((j, e) :: (i, d) :: μ)) := fun S0 H0 F S H σ k0 n0 f s m Dn q => by
  subst hn
  refine ha σ S H s n0.ok _ fun p S1 H1 o n1 hp hs ho a => hb σ S1 H1 (s.mono n1.ex) n1.ok _ fun p2 S2 H2 o2 n2 hp2 hs2 ho2 b => ?_
  have ho' : H2 p = some o := n2.fr p o (n0.ok.nb hp) ho
  have hs' : S2 p = none := (n2.old p (by rw [ho]; exact nofun)).trans hs
  refine ⟨?_, fun t ht => ?_⟩
  · exact szl (by show 2 ≤ 100000; decide)
  have n012 := (n0.trans n1).trans n2
  have n3 : Nx Γ S0 H0 S2 (upd H2 t (.tup [.ref p, .ref p2])) := n012.trans (.hid n2.ok ht _)
  have k3 : ∀ a u, H2 a = some u → upd H2 t (.tup [.ref p, .ref p2]) a = some u := fun a u z => by rw [upd_ne (ne_of_none z ht)]; exact z
  refine ⟨t, [.ref p, .ref p2], rfl, .of upd_same, rfl, _, _, rfl, _, _, rfl, rfl, ?_⟩
  have m1 : Mu S1 H1 H0 (σ.set i (some (V.ref p))) ((i, d) :: μ) := (m.step k0 n1).put (not_in hi) (by rw [s.len]; exact Nat.le_of_ble_eq_true hl) (live_of n0 hp) hs ho a fun l x hl z => by
    obtain ⟨p', o', h1, _, _, h4, _⟩ := m.at_ l x hl
    rw [h1] at z; cases z
    rw [hp] at h4; cases h4
  have hj' : j ∉ ((i, d) :: μ).map (·.1) := fun z => by
    rcases List.mem_cons.mp z with z | z
    · exact hij z.symm
    · exact not_in hj z
  have m2 := (m1.step k0 n2).step k0 (Nx.hid n2.ok ht (.tup [.ref p, .ref p2]))
  refine q _ S2 _ n3 (f.trans (n1.ex.trans n2.ex)) (((s.mono (n1.ex.trans n2.ex)).setN i _).setN j _) (m2.put hj' (by rw [List.length_set, s.len]; exact Nat.le_of_ble_eq_true hl2) (live_of (n0.trans n1) hp2) hs2 (k3 _ _ ho2) b fun l x hl z => ?_)
  obtain ⟨p', o', h1, _, _, h4, _⟩ := m1.at_ l x hl
  rw [h1] at z; cases z
  rw [hp2] at h4; cases h4
end
end CW
/-! P12 -/
/-! P12: the law's peeling. -/
namespace CW
open PySem PySem.Spec PyProof.Rows L2
def rLPeeled (C : Addr) (as : List D) (d : D) : Prop := ∃ (ps : List Str) (ts : List (Str × Str)), WOk ps ts ∧ as = [worldD C ps ts] ∧ d = optL (CT.peelingOf ps (nearOf ts))
theorem free_law {ps : List Str} {n : Str → Str → Bool} (rf : ∀ x, n x x = true) (sy : ∀ x y, n x y = n y x) {left : List Str} (h : ∀ x ∈ left, x ∈ ps) : CT.free ps n left = left.filter fun x => CT.areNear n (left.filter fun y => n x y) := by
  unfold CT.free
  refine List.filter_congr fun x hx => ?_
  rw [Bool.eq_iff_iff, CT.areNear_iff, CT.areNear_iff]
  constructor
  · intro g a ha b hb
    have ma := List.mem_filter.mp ha
    have mb := List.mem_filter.mp hb
    by_cases e1 : a = x
    · subst e1; exact mb.2
    · by_cases e2 : b = x
      · subst e2; rw [sy]; exact ma.2
      · exact g a (CT.left_mem.mpr ⟨h a ma.1, ma.2, e1, ma.1⟩) b (CT.left_mem.mpr ⟨h b mb.1, mb.2, e2, mb.1⟩)
  · intro g a ha b hb
    have ma := CT.left_mem.mp ha
    have mb := CT.left_mem.mp hb
    exact g a (List.mem_filter.mpr ⟨ma.2.2.2, ma.2.1⟩) b (List.mem_filter.mpr ⟨mb.2.2.2, mb.2.1⟩)
theorem zip_mapR {α β : Type} (k : α → β) : ∀ xs : List α, xs.zip (xs.map k) = xs.map fun a => (a, k a)
  | [] => rfl
  | a :: xs => congrArg ((a, k a) :: ·) (zip_mapR k xs)
section
variable {P : Program} {w : World} {K : PySem.W.Frag} {mg : Str → Option Value} {base : Heap} {C : Addr} {f : Addr} {fd : FuncData}
theorem sc__law_peeled : FnScope ["_law_world", "_law_lap", "_law_left", "_law_found", "_law_near", "_law_some", "_law_one", "_law_other", "_law_others"] ["_law_world"] (defScope (topS 58)) := ⟨rfl, rfl, rfl, by decide +kernel, rfl, by decide +kernel, by decide +kernel⟩
theorem ok__law_peeled (T : Kx K mg C) (F : FnP K "_law_peeled" "_law_peeled" (topS 58) f fd) (G_law_is_near : Has P w K mg base "_law_is_near" ["_law_world", "_law_one", "_law_other"] 1 (spF G0 (rLNear C))) (G_law_is_crowd : Has P w K mg base "_law_is_crowd" ["_law_world", "_law_posts"] 2 (spF G0 (rLCrowd C))) :
    FnOk P w K mg base CX0 3 f fd ["_law_world"] (spF G0 (rLPeeled C)) := by
  have nd := (sc__law_peeled).nd
  have B := T.b
  refine fn_ok F sc__law_peeled (fun as d ⟨_, _, _, e, _⟩ => by rw [e]; rfl) fun cdv A outer s H E hr => ?_
  have hu := hu_of hr
  refine ⟨_, (pss_cons (ps_asg (pe_tup (pa_cons (w_list K B (pa_cons (pe_dget hu (pv 0) pe_str (fun _ _ => rfl)) pa_nil)) (pa_cons (pe_lst pa_nil) pa_nil))) (pg_tup (by rfl) (pgs_cons (pg_name (i := 2) nd rfl (Or.inr rfl)) (pgs_cons (pg_name (i := 3) nd rfl (Or.inl rfl)) pgs_nil))))
    (pss_cons (ps_for PassesOwn.never rfl (w_piL K (pe_dget hu (pv 0) pe_str (fun _ _ => rfl))) (pg_name (i := 1) nd rfl (Or.inl rfl))
    (pss_cons (ps_setLc (i := 4) (own := [("_law_one", 6)]) rfl nd rfl rfl (sw_true rfl rfl rfl (by decide +kernel)) (w_piL K (pv 2)) (blkOk_by (by kernel_rfl)) (fun _ _ _ _ _ => (pg_name (i := 6) nd rfl (Or.inr rfl))) (fun _ _ _ _ _ => pts_nil) (fun _ _ _ _ _ => (pe_lc (own := [("_law_other", 7)]) rfl nd (w_piL K (pv 2)) (blkOk_by (by kernel_rfl)) (fun _ _ _ _ _ => (pg_name (i := 7) nd rfl (Or.inl rfl))) (fun _ _ _ _ _ => pts_one (pt_val (pe_h G_law_is_near hr (pa_cons (pv 0) (pa_cons (pv 6) (pa_cons (pv 7) pa_nil)))))) (fun _ _ _ _ _ => (pv 7)))))
    (pss_cons (ps_setLc (i := 5) (own := [("_law_one", 6), ("_law_others", 8)]) rfl nd rfl rfl (sw_true rfl rfl rfl (by decide +kernel)) (pi_zip (by rfl) B.zip (pa_cons (pv 2) (pa_cons (pv 4) pa_nil))) (blkOk_by (by kernel_rfl)) (fun _ _ _ _ _ => (w_gtup K 2 (pgs_cons (pg_name (i := 6) nd rfl (Or.inl rfl)) (pgs_cons (pg_name (i := 8) nd rfl (Or.inl rfl)) pgs_nil)))) (fun _ _ _ _ _ => pts_one (pt_val (pe_h G_law_is_crowd hr (pa_cons (pv 0) (pa_cons (pv 8) pa_nil))))) (fun _ _ _ _ _ => (pv 6)))
    (pss_cons (ps_if (pt_cmpR (w_eqD K hr) (pv 5) (pe_lst pa_nil) (nomark _)) (pss_one (ps_ret pe_non)) pss_nil)
    (pss_cons (ps_expr (pe_bm PySem.F.plainAttrs_list PySem.F.slot_list_remove PySem.F.type_list_remove mt_removeS (pv 2) (pa_cons (pe_ix (w_ixL K) (pv 5) pe_int (fun _ _ => rfl)) pa_nil)))
    (pss_one (ps_expr (pe_bm PySem.F.plainAttrs_list PySem.F.slot_list_append PySem.F.type_list_append mt_append (pv 3) (pa_cons (pe_ix (w_ixL K) (pv 5) pe_int (fun _ _ => rfl)) pa_nil)))))))))
    (pss_one (ps_ret (pv 3))))), ?_⟩
  rintro as d ⟨ps, ts, hw, rfl, rfl⟩
  have g := hw.g
  obtain ⟨kk, hkk, hne, hend, hpe⟩ := CT.peel_kk (ps := ps) (n := nearOf ts)
  have inv := fun i => CT.peelIt_inv (n := nearOf ts) hw.p.nd i
  have lsub : ∀ i, ∀ x ∈ (CT.peelIt ps (nearOf ts) i).2, x ∈ ps := fun i x hx => (inv i).2.subset hx
  have hs := hw.p.sz
  have llen : ∀ i, (CT.peelIt ps (nearOf ts) i).2.length ≤ 16 := fun i => by have := (inv i).2.length_le; omega
  have rf : ∀ x, nearOf ts x x = true := g.rf
  have sy : ∀ x y, nearOf ts x y = nearOf ts y x := g.sy
  -- one turn as far as some
  have fl : ∀ i, (((CT.peelIt ps (nearOf ts) i).2.zip ((CT.peelIt ps (nearOf ts) i).2.map fun a => (CT.peelIt ps (nearOf ts) i).2.filter fun y => nearOf ts a y)).filter fun q => CT.areNear (nearOf ts) q.2).map (fun q => q.1) = CT.free ps (nearOf ts) (CT.peelIt ps (nearOf ts) i).2 := fun i => by
    rw [free_law rf sy (lsub i), zip_mapR, List.filter_map, List.map_map]
    show List.map (fun a => a) _ = _
    rw [List.map_id']
    rfl
  have turn := fun (i : Nat) (lap : D) (u : TS) (o : Out) (hu : SvD G0 u [some (worldD C ps ts), some lap, none, none, some (.lst ((CT.peelIt ps (nearOf ts) i).2.map fun a => .lst (sS ((CT.peelIt ps (nearOf ts) i).2.filter fun y => nearOf ts a y)))), some (.lst (sS (CT.free ps (nearOf ts) (CT.peelIt ps (nearOf ts) i).2))), none, none, none]
        [(3, .lst (sS (CT.peelIt ps (nearOf ts) i).1)), (2, .lst (sS (CT.peelIt ps (nearOf ts) i).2))] o) =>
    have hl := llen i
    have h5 := sv_asgF (Γ := G0) (ρ := [some (worldD C ps ts), some lap, none, none, some (.lst ((CT.peelIt ps (nearOf ts) i).2.map fun a => .lst (sS ((CT.peelIt ps (nearOf ts) i).2.filter fun y => nearOf ts a y)))), none, none, none, none]) (μ := [(3, .lst (sS (CT.peelIt ps (nearOf ts) i).1)), (2, .lst (sS (CT.peelIt ps (nearOf ts) i).2))]) (i := 5)
      (ev_lcEN (xs := (CT.peelIt ps (nearOf ts) i).2.zip ((CT.peelIt ps (nearOf ts) i).2.map fun a => (CT.peelIt ps (nearOf ts) i).2.filter fun y => nearOf ts a y)) (enc2 := .str) (q := fun q => q.1) (f := fun q => CT.areNear (nearOf ts) q.2) (g := gTup K 2 (gCons (gName 6) (gCons (gName 8) gNil))) (vs := [6, 8])
        (wv_zip (K := K) (enc := .str) (enc2 := fun l : List Str => .lst (sS l)) (av_cons (ev_var (i := 2) rfl) (av_cons (EvD.is (ev_var (i := 4) rfl) (by rw [List.map_map]; rfl)) av_nil)))
        (fun q hq => ⟨_, gv_tup (gs_cons (gv_name (i := 6) (by decide)) (gs_cons (gv_name (i := 8) (by decide)) gs_nil)), tv_B (ev_call0 (R := rLCrowd C) (E := E0) (av_cons (ev_var (i := 0) rfl) (av_cons (ev_var (i := 8) rfl) av_nil)) (⟨ps, ts, q.2, hw, Or.inl rfl, (fun x hx => by
          rw [zip_mapR] at hq
          obtain ⟨a, _, rfl⟩ := List.mem_map.mp hq
          exact lsub i x (List.mem_filter.mp hx).1), (by
          rw [zip_mapR] at hq
          obtain ⟨a, _, rfl⟩ := List.mem_map.mp hq
          exact Nat.le_trans (List.length_filter_le _ _) (by omega)), rfl⟩ : rLCrowd C _ _)), fun _ => ev_var (i := 6) rfl⟩) (by rw [List.length_zip, List.length_map]; omega)) (flat_strs _)
    sv_seq (sv_asgFF (ρ := [some (worldD C ps ts), some lap, none, none, none, none, none, none, none]) (i := 4) (ev_lcFF (xs := (CT.peelIt ps (nearOf ts) i).2) (enc := .str) (g := gName 6) (vs := [6]) (h := fun a => .lst (sS ((CT.peelIt ps (nearOf ts) i).2.filter fun y => nearOf ts a y))) (wv_list (K := K) (ev_var (i := 2) rfl)) (fun a ha => ⟨_, gv_name (by decide), EvN.f (ev_lcF (xs := (CT.peelIt ps (nearOf ts) i).2) (enc := .str) (g := gName 7) (vs := [7]) (f := fun y => nearOf ts a y) (wv_list (K := K) (ev_var (i := 2) rfl)) (fun b hb => ⟨_, gv_name (by decide), tv_B (ev_call0 (R := rLNear C) (E := E0) (av_cons (ev_var (i := 0) rfl) (av_cons (ev_var (i := 6) rfl) (av_cons (ev_var (i := 7) rfl) av_nil))) (⟨ps, ts, a, b, hw, rfl, lsub i a ha, lsub i b hb, rfl⟩ : rLNear C _ _)), fun _ => ev_var (i := 7) rfl⟩) (by omega)) (flat_strs _)⟩) (by omega)))
      (sv_seq h5 (by rw [fl i]; exact hu))
  have step : ∀ i, i < ps.length → i < kk → ∃ x, x ∈ (CT.peelIt ps (nearOf ts) i).2 ∧ CT.peelIt ps (nearOf ts) (i + 1) = ((CT.peelIt ps (nearOf ts) i).1 ++ [x], (CT.peelIt ps (nearOf ts) i).2.erase x) ∧ sS (CT.free ps (nearOf ts) (CT.peelIt ps (nearOf ts) i).2) = .str x :: (sS (CT.free ps (nearOf ts) (CT.peelIt ps (nearOf ts) i).2)).tail ∧ (CT.peelIt ps (nearOf ts) i).1.length = i := fun i _ hi => by
    cases hf : CT.free ps (nearOf ts) (CT.peelIt ps (nearOf ts) i).2 with
    | nil => exact absurd hf (hne i hi)
    | cons x r => exact ⟨x, (CT.free_mem (by rw [hf]; exact List.mem_cons_self)).1, CT.peelStep_some hf, rfl, (CT.peelIt_len fun j hj => hne j (Nat.lt_trans hj hi)).2⟩
  have isn : ∀ (i : Nat) (l : Nat), l ∈ [1, 4, 5] → isIn [(3, D.lst (sS (CT.peelIt ps (nearOf ts) i).1)), (2, D.lst (sS (CT.peelIt ps (nearOf ts) i).2))] l = false := fun i l hl => by
    rcases List.mem_cons.mp hl with rfl | hl
    · rfl
    rcases List.mem_cons.mp hl with rfl | hl
    · rfl
    rw [List.mem_singleton.mp hl]; rfl
  have fsub : ∀ i, ∀ x ∈ CT.free ps (nearOf ts) (CT.peelIt ps (nearOf ts) i).2, x ∈ (grOf ps ts).ps := fun i x hx => lsub i x (List.mem_filter.mp hx).1
  have hlen := CT.peelIt_len (k := kk) hne
  refine SvD.e <| sv_seq (sv_two (en_listL (av_cons (ev_dget (ev_var rfl) ev_str rfl) av_nil)) (en_lst av_nil) rfl) ?_
  by_cases hk : kk = ps.length
  · have e0 : (CT.peelIt ps (nearOf ts) kk).2 = [] := List.eq_nil_of_length_eq_zero (by omega)
    have ep : CT.peelingOf ps (nearOf ts) = some (CT.peelIt ps (nearOf ts) kk).1 := by unfold CT.peelingOf; rw [hpe, e0]; exact if_pos rfl
    rw [ep, hk]
    refine sv_seq (sv_for (vs := [1, 4, 5]) (xs := ps) (enc := .str) (wv_list (ev_dget (ev_var rfl) ev_str rfl)) (fun j => ([some (worldD C ps ts), none, none, none, none, none, none, none, none], [(3, .lst (sS (CT.peelIt ps (nearOf ts) j).1)), (2, .lst (sS (CT.peelIt ps (nearOf ts) j).2))])) ps.length rfl (Nat.le_refl _) (fun i lap hi hl => ?_) (.inl ⟨rfl, rfl⟩)) (sv_ret (ev_var rfl))
    obtain ⟨x, hx, e1, e2, e3⟩ := step i hi (by omega)
    refine ⟨_, [some (worldD C ps ts), some (.str lap), none, none, some (.lst ((CT.peelIt ps (nearOf ts) i).2.map fun a => .lst (sS ((CT.peelIt ps (nearOf ts) i).2.filter fun y => nearOf ts a y)))), some (.lst (sS (CT.free ps (nearOf ts) (CT.peelIt ps (nearOf ts) i).2))), none, none, none], gv_name (by decide), isn i, .inl ?_, rfl⟩
    refine turn i (.str lap) _ _ (sv_toN [] (sv_seq (sv_if (k := false) (tv_test (EvD.is (ev_op (ev_var rfl) (ev_lst av_nil) (rd_isNil (eqk_posts g (fsub i)))) ?_)) (fun h => by cases h) fun _ => sv_next)
      (sv_seq (sv_rem (i := 2) (ns := (CT.peelIt ps (nearOf ts) i).2) (x := x) rfl (ev_op (ev_var rfl) ev_int (rd_ixL (n := 0) (d := .str x) rfl (by rw [e2]; rfl))) hx) (sv_app (i := 3) rfl (ev_op (ev_var rfl) ev_int (rd_ixL (n := 0) (d := .str x) rfl (by rw [e2]; rfl))) ?_))) rfl ?_)
    · cases hf : CT.free ps (nearOf ts) (CT.peelIt ps (nearOf ts) i).2 with
      | nil => exact absurd hf (hne i (by omega))
      | cons y r => rfl
    · rw [List.length_map, e3]; omega
    · show [(3, D.lst _), (2, D.lst _)] = [(3, _), (2, _)]
      rw [e1, ← sS_snoc]
  · have hlt : kk < ps.length := by omega
    have ep : CT.peelingOf ps (nearOf ts) = none := by
      unfold CT.peelingOf
      rw [hpe]
      exact if_neg fun z => by rw [z] at hlen; simp at hlen; omega
    rw [ep]
    refine sv_seq_rt (sv_for (vs := [1, 4, 5]) (xs := ps) (enc := .str) (wv_list (ev_dget (ev_var rfl) ev_str rfl)) (fun j => ([some (worldD C ps ts), none, none, none, none, none, none, none, none], [(3, .lst (sS (CT.peelIt ps (nearOf ts) j).1)), (2, .lst (sS (CT.peelIt ps (nearOf ts) j).2))])) kk rfl (Nat.le_of_lt hlt) (fun i lap hi hl => ?_) (.inr ⟨ps[kk], _, .non, List.getElem?_eq_getElem hlt, gv_name (by decide), isn kk,
      turn kk (.str ps[kk]) _ _ (sv_seq_rt (sv_if (k := true) (tv_test (EvD.is (ev_op (ev_var rfl) (ev_lst av_nil) (rd_isNil (eqk_posts g (fsub kk)))) (by rw [hend]; rfl))) (fun _ => sv_ret ev_non) fun h => by cases h)), rfl⟩))
    obtain ⟨x, hx, e1, e2, e3⟩ := step i (by omega) hi
    refine ⟨_, [some (worldD C ps ts), some (.str lap), none, none, some (.lst ((CT.peelIt ps (nearOf ts) i).2.map fun a => .lst (sS ((CT.peelIt ps (nearOf ts) i).2.filter fun y => nearOf ts a y)))), some (.lst (sS (CT.free ps (nearOf ts) (CT.peelIt ps (nearOf ts) i).2))), none, none, none], gv_name (by decide), isn i, .inl ?_, rfl⟩
    refine turn i (.str lap) _ _ (sv_toN [] (sv_seq (sv_if (k := false) (tv_test (EvD.is (ev_op (ev_var rfl) (ev_lst av_nil) (rd_isNil (eqk_posts g (fsub i)))) ?_)) (fun h => by cases h) fun _ => sv_next)
      (sv_seq (sv_rem (i := 2) (ns := (CT.peelIt ps (nearOf ts) i).2) (x := x) rfl (ev_op (ev_var rfl) ev_int (rd_ixL (n := 0) (d := .str x) rfl (by rw [e2]; rfl))) hx) (sv_app (i := 3) rfl (ev_op (ev_var rfl) ev_int (rd_ixL (n := 0) (d := .str x) rfl (by rw [e2]; rfl))) ?_))) rfl ?_)
    · cases hf : CT.free ps (nearOf ts) (CT.peelIt ps (nearOf ts) i).2 with
      | nil => exact absurd hf (hne i hi)
      | cons y r => rfl
    · rw [List.length_map, e3]; omega
    · show [(3, D.lst _), (2, D.lst _)] = [(3, _), (2, _)]
      rw [e1, ← sS_snoc]
end
end CW
/-! W13 -/
/-! W13: len(set(t)), t a tuple of different texts. -/
namespace CW
open PySem PySem.Spec PyProof.Rows L2
abbrev SetS (prog : Program) (w : World) (h : Heap) (a : Addr) (xs : List Str) (i : Nat) : Prop := h.SetOf (PySem.strKind prog w) a (fun z => (xs.take i).any (· == z)) i
section
variable {prog : Program} {w : World} {A : Around} {R : Result → Shared → Prop} {It : Addr} {fp wr : List Addr} {G : Array GenState → Array GenState → Prop} {n : Nat} {P : Nat → Value → Prop} {St : Nat → Shared → Prop}
theorem set_loop (W : WalksS prog w A.in1 It fp wr G n P St) (a : Addr) (ha : a ∉ fp) (xs : List Str) (hl : xs.length = n) (nd : xs.Nodup) (small : n ≤ 1000) (told : ∀ i v, P i v → ∃ t, v = .str (xs.getD i Str.empty) t) :
    ∀ (k i : Nat) (s : Shared), n - i = k → i ≤ n → St i s → SetS prog w s.heap a xs i → (∀ s2, Moved (a :: wr) G s s2 → SetS prog w s2.heap a xs n → R (.ok (.ret .none)) s2) →
      codeAny (model prog w) A (.builtin "set.update.loop" ⟨[.ref a, .ref It], []⟩) R s := by
  have aw : a ∉ wr := fun z => ha (W.sub _ z)
  have sub : ∀ b ∈ wr, b ∈ a :: wr := fun b z => List.mem_cons_of_mem _ z
  intro k
  induction k with
  | zero =>
    intro i s h0 h1 hst hS hR
    obtain rfl : i = n := by omega
    refine codeAny_builtin PyProof.Rows.F.entry_set_update_loop ?_; rw [Around.under_plainId PyProof.Rows.F.plain_set_update_loop _]
    show wpAny _ A.in1 (pyNext (.ref It) >>= _) _ _ s
    refine wpAny_bind (W.done s _ _ hst fun s2 hm => ?_)
    show wpAny _ A.in1 (ret Value.none) _ _ s2
    obtain ⟨o, es, ep, t, q1, q2⟩ := hS
    exact wpAny_pure (hR s2 (hm.mono sub) ⟨o, es, ep, t, hm.heap a _ aw q1, q2⟩)
  | succ k ih =>
    intro i s h0 h1 hst hS hR
    have lt : i < n := by omega
    refine codeAny_builtin PyProof.Rows.F.entry_set_update_loop ?_; rw [Around.under_plainId PyProof.Rows.F.plain_set_update_loop _]
    show wpAny _ A.in1 (pyNext (.ref It) >>= _) _ _ s
    refine wpAny_bind (W.item i s _ _ lt hst fun v s2 hP st2 hm => ?_)
    obtain ⟨t, rfl⟩ := told i v hP
    have hS2 : SetS prog w s2.heap a xs i := by
      obtain ⟨o, es, ep, tb, q1, q2⟩ := hS
      exact ⟨o, es, ep, tb, hm.heap a _ aw q1, q2⟩
    have gi : xs.getD i Str.empty = xs[i]'(by omega) := by rw [List.getD_eq_getElem?_getD, List.getElem?_eq_getElem (by omega)]; rfl
    have fresh : ((xs.take i).any (· == xs.getD i Str.empty)) = false := by
      rw [gi]
      cases hb : (xs.take i).any (· == xs[i]'(by omega)) with
      | false => rfl
      | true =>
        obtain ⟨y, hy, ey⟩ := List.any_eq_true.mp hb
        obtain ⟨j, hj, e⟩ := List.mem_take_iff_getElem.mp hy
        have := (List.getElem_inj nd).mp (e.trans (eq_of_beq ey))
        omega
    show wpAny _ A.in1 (holding [Value.str (xs.getD i Str.empty) t] (setAdd a (.str (xs.getD i Str.empty) t)) >>= _) _ _ s2
    refine wpAny_bind (wpAny_holding ?_); unfold setAdd; refine wpAny_holding (wpAny_bind ((PySem.strKind prog w).pyHash (k := xs.getD i Str.empty) (strKind_is _ _ _ _) ?_))
    refine wpAny_setAddHashed_of (knd := PySem.strKind prog w) (s := { s2 with toks := s2.toks + 1 }) (strKind_is _ _ _ _) rfl hS2 (by unfold scanBound; omega) fun h2 sb hS3 => ?_
    have hS4 : SetS prog w h2 a xs (i + 1) := by
      refine SetOf_congr hS3 (fun z => ?_) (by rw [fresh]; rfl)
      rw [List.take_add_one, List.getElem?_eq_getElem (by omega), List.any_append, gi]
      show _ = (_ || [xs[i]].any (· == z))
      by_cases e : z = xs[i]
      · subst e; simp
      · have e2 : (xs[i] == z) = false := by simpa [beq_iff_eq] using fun h : xs[i] = z => e h.symm
        simp [e2, e]
    refine wpAny_pure ⟨plainId_quiet PyProof.Rows.F.plain_set_update_loop _, ih (i + 1) _ (by omega) lt (W.frame _ s2 _ _ st2 (Nat.le_succ _) fun b hb o e => (sb.2 b (fun h : b = a => ha (by rw [← h]; exact hb))).trans e) hS4 fun s3 hm3 hS5 => hR s3 (Moved.trans W.gtrans ((hm.mono sub).then_heap (Nat.le_succ _) fun b o hb e => ?_) hm3) hS5⟩
    exact (sb.2 b (fun h : b = a => hb (by rw [h]; exact List.mem_cons_self))).trans e
end
/-- a set just made -/
abbrev ob0 (led : Bool) : Obj := { cls := .type "set", dict := none, data := .set #[] 0 (.fresh 0 0 led) }
section
variable {prog : Program} {w : World} {A : Around} {E : Value → Shared → Prop} {s : Shared}
theorem set_tuple {l : Addr} {its : Array Value} {xs : List Str} {Q : Value → Shared → Prop} (hh : A.handled = none) (ht : s.heap.IsTuple l its) (hi : PyProof.Rows.StrsAre its.toList xs) (nd : xs.Nodup) (small : xs.length ≤ 1000)
    (h : ∀ (h2 : Heap) (tk : Nat), SetS prog w h2 s.heap.objs.size xs its.size → (∀ b o, b < s.heap.objs.size → s.heap.get? b = some o → h2.get? b = some o) → Q (.ref s.heap.objs.size) { s with heap := h2, toks := tk }) :
    wpAny (model prog w) A (call (.type "set") [.ref l]) Q E s := by
  obtain ⟨_, _, mro⟩ := PySem.F.called_set.mro; have made := PySem.F.called_set.made; have sb := PySem.F.called_set.sub
  refine wpAny_call (codeAny_of_tree ?_); show wpAny _ _ (callAny (.type "set") _) _ _ _
  refine wpAny_pure ⟨Code.quiet_builtin _ (by decide +kernel), codeAny_builtin F.entry_type_call ?_⟩; rw [Around.under_plain (weight_type_call_type "set" [.ref l] []) rfl]
  have k1 := PySem.F.called_set.notType; have k2 := PySem.F.called_set.canCreate; have k3 := PySem.F.typeCall_set_1 (.ref l)
  repeat (any_goals (first | assumption | wp_step))
  refine codeAny_mono (code_set_new_1 (.ref l) (E := E) (Q₁ := fun u s1 => ∃ led : Bool, u = .ref s.heap.objs.size ∧ s1 = { s with heap := s.heap.push (ob0 led) }) fun led => ⟨led, rfl, rfl⟩) fun r s1 hr => ?_
  cases r with
  | error e => exact hr
  | ok fl => cases fl with
    | ret u =>
      obtain ⟨led, rfl, rfl⟩ := hr
      have at0 : (s.heap.push (ob0 led)).get? s.heap.objs.size = some (ob0 led) := Heap.get?_push_size _ rfl
      have ty0 : Shared.TypeIs { s with heap := s.heap.push (ob0 led) } (.ref s.heap.objs.size) "set" := ⟨_, at0, rfl⟩
      have look := PySem.F.called_set.init.lookup; have bind := PySem.F.called_set.init.bind (.ref s.heap.objs.size)
      repeat (any_goals (first | assumption | wp_step))
      refine codeAny_mono (codeAny_call_builtin (R := wants (fun r s2 => r = .none ∧ ∃ h2 tk, s2 = { s with heap := h2, toks := tk } ∧ SetS prog w h2 s.heap.objs.size xs its.size ∧ (∀ b o, b < s.heap.objs.size → s.heap.get? b = some o → h2.get? b = some o)) E) PySem.F.called_set.init.plain PySem.F.entry_set_init (check_set_init_1 ty0 ?_)) fun r2 s2 hr2 => ?_
      · obtain ⟨⟨oc, od, dt, sl⟩, e1, e2, nl, e3⟩ := ht
        simp only at e2 e3; subst e2 e3
        have e4 : (s.heap.push (ob0 led)).get? l = some { cls := .type "tuple", dict := od, data := .seq its nl, slots := sl } := Heap.get?_push_of_some _ e1
        have n1 := PySem.F.sub_tuple_set; have n2 := PySem.F.sub_tuple_frozenset
        have n3 : (Value.type "tuple" == Value.type "dict") = false := by decide
        have tup1 : (s.heap.push (ob0 led)).IsTuple l its := ⟨_, e4, rfl, nl, rfl⟩
        unfold Builtin.«set.__init__» noKeywords Builtin.Frozenset.updateFrom; generalize hPI : pyIter = PI
        wp_walk
        subst hPI; refine wpAny_pyIter_tuple tup1 (wpAny_bind (wpAny_runValue ?_))
        have ll : l < s.heap.objs.size := Heap.lt_size e1
        have ls : xs.length = its.size := by rw [← StrsAre.len_eq hi, Array.length_toList]
        have nf : s.heap.objs.size ∉ [(s.heap.push (ob0 led)).objs.size, l] := by
          rw [Heap.size_push]; simp only [List.mem_cons, List.not_mem_nil, or_false, not_or]
          exact ⟨Nat.ne_of_lt (Nat.lt_succ_self _), Nat.ne_of_gt ll⟩
        refine set_loop ((Walks.tuple (by simp [hh]) _ l (by rw [Heap.size_push]; exact Nat.ne_of_lt (Nat.lt_succ_of_lt ll)) its).toS) s.heap.objs.size nf xs ls nd (by omega) (fun i v hv => SS.strs_at hi i v (by rw [Array.getElem?_toList]; exact hv)) (its.size - 0) 0 _ (by omega) (Nat.zero_le _) ⟨⟨_, Heap.get?_push_size _ rfl, rfl, rfl⟩, (tup1.push _)⟩ ?start ?out
        case start => exact PyProof.Rows.SetOf_congr ((PyProof.Rows.setObjOf_fresh (knd := PySem.strKind prog w) led).setOf (Heap.get?_push_of_some _ at0) (by unfold scanBound; omega)) (fun _ => rfl) rfl
        case out =>
          rintro ⟨h2, g2, d2, t2, o2⟩ hm hS
          obtain rfl : g2 = s.gens := hm.gens
          obtain rfl : d2 = s.drawn := hm.drawn
          obtain rfl : o2 = s.os := hm.os
          show wpAny _ _ _ _ _ _
          refine wpAny_pure ?_; show wpAny _ _ (ret Value.none) _ _ _
          refine wpAny_pure ⟨rfl, h2, t2, rfl, hS, fun b o hb e => hm.heap b o ?_ (Heap.get?_push_of_some _ (Heap.get?_push_of_some _ e))⟩
          rw [Heap.size_push]; simp only [List.mem_cons, List.not_mem_nil, or_false, not_or]
          exact ⟨Nat.ne_of_lt hb, Nat.ne_of_lt (Nat.lt_succ_of_lt hb)⟩
      · cases r2 with
        | error e => exact hr2
        | ok f2 => cases f2 with
          | ret r =>
            obtain ⟨rfl, h2, tk, rfl, q1, q2⟩ := hr2
            repeat (any_goals (first | assumption | wp_step))
            exact h _ _ q1 q2
          | _ => exact hr2.elim
    | _ => exact hr.elim
end
end CW
/-! W14 -/
/-! W14: tuples of texts whose object is known to have no dict. -/
namespace CW
open PySem PySem.Spec PyProof.Rows L2
def tLenSetT (K : PySem.W.Frag) (ta : TE) : TE := fun σ H Q => ta σ H fun x H1 => ∃ l, ∃ xs : List Str, x = .ref l ∧ SqT K H1 l (xs.map V.str) ∧ xs.Nodup ∧ xs.length ≤ 1000 ∧ Q (.int xs.length) H1
theorem pe_lenSetT {X : Cx} {a : Expr} {ta : TE} {p p2 q pos : Pos} (K : PySem.W.Frag) (B : Bf X.mg) (ha : PE X a ta) (hc : X.calm = true := by rfl) (hK : X.K = K := by rfl) (hg : Gl X "len" := by rfl) (hg2 : Gl X "set" := by rfl)
    (na : starEach [a] X.env = (false, eval a X.env) :: starEach [] X.env := by rfl) : PE X (.Call (.Name "len" p) [.Call (.Name "set" p2) [a] [] q] [] pos) (tLenSetT K ta) := by
  subst hK
  refine ⟨fun pins s σ H Q I h => ?_⟩
  refine Call_ (ld_blt I hg B.len boot_len (PyProof.Rows.callWith_builtin1 (PyProof.Rows.args_cons ?_ rfl) rfl rfl))
  refine Call_ (ld_blt I hg2 B.set boot_set (PyProof.Rows.callWith_type1 (PyProof.Rows.args_cons (thn (ha.run pins s σ H _ I h) fun v s1 ⟨x, H1, I1, r1, l, xs, ex, hq, nd, sm, q1⟩ => PyProof.Rows.args_nil ?_) na) na rfl))
  subst ex; cases r1
  obtain ⟨its, r, pl, _⟩ := I1.tuple hq
  refine set_tuple (I1.ok.hd hc) pl (by simpa using strsAre_of r) nd sm fun h2 tk hS hk => PyProof.Rows.args_nil ?_
  have hl : its.toArray.size = xs.length := by rw [List.size_toArray]; have z := r.length; rw [List.length_map] at z; exact z.symm
  rw [hl] at hS
  obtain ⟨o, es, ep, t, ho, hex, hd, _, _, _, hf, hn⟩ := hS
  have I2 : Inv X pins σ H1 { s1 with heap := h2, toks := tk } := I1.kept fun b o e => hk b o (Heap.lt_size e) e
  exact call_len_set ho hex hd hf (by rw [hn] <;> omega) ⟨.int xs.length, H1, I2.tok _, ⟨_, by rw [hn]⟩, q1⟩
section
variable {Γ : Gam} {ρ : Rho} {t : TA} {te ta ty : TE} {xs : List Str} {x : Str} {K : PySem.W.Frag} {d : D}
theorem sqX {H : Hp} {a : Addr} {ob : Obj} {vs : List V} (e : H a = some (.frz ob (.tup vs))) : SqT K H a vs := .inl (.inr ⟨ob, e⟩)
theorem ra_lenX : RDA Γ (fun xs H Q => ∃ p ys, xs = [.ref p] ∧ (SqL K H p ys ∨ SqT K H p ys) ∧ Q (.int ys.length) H) [.tupX xs] (nI xs.length) := fun us S H a k Q q => by
  cases a with
  | cons h t =>
    cases t
    cases h with
    | tupX e c d => exact ⟨_, _, rfl, .inr (sqX (k.ex _ _ e)), q _ S H (.refl k) (by rw [List.length_map]; exact .int _)⟩
theorem isi_tupX : RDA Γ (rIsi K) [.tupX xs, .ty "tuple"] (.bl true) := ra_isi (T := fun _ _ => True) fun v S H a e => by
  cases a with
  | tupX h _ _ => exact ⟨_, .fTuple (e _ _ h), kit_ty (by decide +kernel)⟩
theorem rd_inX : RD2 Γ (rIn K false) (.str x) (.tupX xs) (.bl (decide (x ∈ xs))) := fun v y S H a b k Q q => by
  cases a
  cases b with
  | tupX e c d => exact ⟨_, _, rfl, .inr (sqX (k.ex _ _ e)), rfl, flat_sm _, q _ S H (.refl k) (by rw [inV_strs]; exact .bl _)⟩
theorem rd_ixX {i : Int} {n : Nat} (hi : i = (n : Int)) (h : xs[n]? = some x) : RD2 Γ (rIxT K) (.tupX xs) (.int i) (.str x) := fun v y S H a b k Q q => by
  subst hi; cases b
  cases a with
  | tupX e c d => exact ⟨_, _, _, .str x, rfl, rfl, sqX (k.ex _ _ e), atI_nat (by rw [List.getElem?_map, h]; rfl), q _ S H (.refl k) (.str x)⟩
theorem rd_ixXn (h : xs.getLast? = some x) : RD2 Γ (rIxT K) (.tupX xs) (.int (-1)) (.str x) := fun v y S H a b k Q q => by
  cases b
  cases a with
  | tupX e c d =>
    refine ⟨_, _, -1, .str x, rfl, rfl, sqX (k.ex _ _ e), ?_, q _ S H (.refl k) (.str x)⟩
    obtain ⟨ys, rfl⟩ := List.getLast?_eq_some_iff.mp h
    rw [List.map_append]
    exact atI_last _ _
theorem ev_lenSetX (h : EvD Γ ta ρ (.tupX xs)) (nd : xs.Nodup) (sm : xs.length ≤ 1000) : EvD Γ (tLenSetT K ta) ρ (nI xs.length) := fun σ S H s k Q q => h σ S H s k _ fun v S1 H1 n1 a => by
  cases a with
  | tupX e c d => exact ⟨_, xs, rfl, sqX (n1.ok.ex _ _ e), nd, sm, q _ S1 H1 n1 (.int _)⟩
theorem eqk_tupX (h : ∀ x ∈ xs, PyData.strOk x = true) {k : Nat} : Eqk (k + 1) (.tupX xs) := by
  refine ⟨by simp only [D.ok]; exact List.all_eq_true.mpr h, ?_⟩
  simp only [D.py, PyData.depth]
  refine Nat.succ_le_succ ?_
  have : ∀ l : List Str, PyData.depthAll (l.map PyData.str) = 0 := fun l => by
    induction l with
    | nil => simp [PyData.depthAll]
    | cons a l ih => simp [PyData.depthAll, PyData.depth, ih]
  rw [this]; exact Nat.zero_le _
theorem wv_tupX (h : EvD Γ te ρ (.tupX xs)) : WvD Γ (iTup K te) ρ (xs.map .str) := fun σ S H s k R q => h σ S H s k _ fun v S2 H2 n a => by
  cases a with
  | tupX e c d =>
    rename_i p ob
    have w := walk_tup (K := K) (a := p) (xs := xs.map V.str)
    have l1 : (xs.map V.str).length = xs.length := List.length_map ..
    have l2 : (xs.map D.str).length = xs.length := List.length_map ..
    have here : ∀ {S' H'}, Ex S2 S' → Ok Γ S' H' → SqT K H' p (xs.map V.str) := fun e1 k1 => sqX (k1.ex _ _ (e1 _ _ e))
    refine ⟨_, rfl, ⟨_, sqX (n.ok.ex _ _ e)⟩, q _ _ _ n ⟨fun i S' H' hi e1 k1 => w.goes i H' (by omega) (here e1 k1), fun S' H' e1 k1 => by rw [l2, ← l1]; exact w.stops H' (here e1 k1), fun i x S' H' H'' hi e1 k1 y => ?_⟩⟩
    obtain ⟨rfl, hx⟩ := w.yields i H' x H'' (by omega) (here e1 k1) y
    rw [List.getElem?_map] at hx
    cases z : xs[i]? with
    | none => rw [z] at hx; cases hx
    | some u =>
      rw [z] at hx
      cases hx
      exact ⟨S', .str u, .refl k1, by rw [List.getElem?_map, z]; rfl, .str u⟩
/-- t.index(x) -/
def tTix (K : PySem.W.Frag) (to ty : TE) : TE := fun σ H Q => to σ H fun v H1 => ∃ (p : Addr) (ob : Obj) (ys : List Str), v = .ref p ∧ H1 p = some (.frz ob (.tup (ys.map V.str))) ∧ ob.cls = .type "tuple" ∧ ob.dict = none ∧
  ty σ H1 fun u H2 => ∃ z j, u = .str z ∧ SqT K H2 p (ys.map V.str) ∧ ys[j]? = some z ∧ (∀ m, m < j → ys[m]? ≠ some z) ∧ Q (.int (j : Nat)) H2
theorem pe_tix {X : Cx} {o e : Expr} {to ty : TE} {apos cpos : Pos} (K : PySem.W.Frag) (ho : PE X o to) (ha : PA X [e] (tCons ty tNil)) (hK : X.K = K := by rfl) (hbase : attributeBase o "index" X.env (eval o X.env) = eval o X.env := by rfl)
    (hfew : ((backTo cpos (starEach [e] X.env)).all (fun x => !x.1) && (backToKw cpos (keywordEach [] X.env)).all (fun x => x.1.isSome) && decide (([e] : List Expr).length + ([] : List Keyword).length + (if ([] : List Keyword).isEmpty then 0 else 1) < 30)) = true := by rfl)
    (hline : (apos.endLine == cpos.line) = true := by rfl) (hs : starEach [e] X.env = (false, eval e X.env) :: starEach [] X.env := by rfl) (hplain : (backTo cpos (starEach [] X.env)).any (·.1) = false := by rfl) : PE X (.Call (.Attribute o "index" apos) [e] [] cpos) (tTix K to ty) := by
  subst hK
  refine ⟨fun pins s σ H Q I h => ?_⟩
  refine wpAny_Call_method_late hbase hfew hline rfl (thn (ho.run pins s σ H _ I h) fun v s1 ⟨x, H1, I1, r1, p, ob, ys, ex, e1, c, d, q1⟩ => ?_)
  subst ex; cases r1
  obtain ⟨hob, _⟩ := I1.hok p _ e1
  refine ⟨"tuple", "tuple.index", PySem.F.plainAttrs_tuple, PySem.F.slot_tuple_index, PySem.F.type_tuple_index, ⟨ob, hob, c⟩, fun a ea => by cases ea; exact ⟨ob, hob, d⟩, ?_⟩
  have hA := ha.run cpos pins s1 σ H1 (OneV fun u H2 => ∃ z j, u = .str z ∧ SqT X.K H2 p (ys.map V.str) ∧ ys[j]? = some z ∧ (∀ m, m < j → ys[m]? ≠ some z) ∧ Q (.int (j : Nat)) H2) I1 q1
  rw [hs] at hA ⊢
  refine Calls.callWith_builtin (by show (false || (backTo cpos (starEach [] X.env)).any (·.1)) = false; rw [hplain] <;> rfl) (Calls.evalArgs_plain (thn hA fun us s2 ⟨vs, H2, I2, r2, q2⟩ => ?_))
  obtain ⟨u, rfl, z, j, rfl, w1, w2, w3, w4⟩ := q2.out
  exact mt_tup_index pins s2 σ H2 (.ref p) [.str z] _ us Q I2 rfl r2 ⟨p, ys, z, j, rfl, rfl, w1, w2, w3, w4⟩
theorem ev_tix (h : EvD Γ te ρ (.tupX xs)) (hy : EvD Γ ty ρ (.str x)) (hx : x ∈ xs) : EvD Γ (tTix K te ty) ρ (nI (xs.idxOf x)) := fun σ S H s k Q q => h σ S H s k _ fun v S1 H1 n1 a => by
  cases a with
  | tupX e c d =>
    refine ⟨_, _, xs, rfl, n1.ok.ex _ _ e, c, d, hy σ S1 H1 (s.mono n1.ex) n1.ok _ fun u S2 H2 n2 b => ?_⟩
    cases b
    have hl : xs.idxOf x < xs.length := List.idxOf_lt_length_iff.mpr hx
    refine ⟨x, xs.idxOf x, rfl, sqX (n2.ok.ex _ _ (n2.ex _ _ e)), ?_, fun m hm z => ?_, q _ S2 H2 (n1.trans n2) (.int _)⟩
    · rw [List.getElem?_eq_getElem hl, List.getElem_idxOf hl]
    · obtain ⟨hml, em⟩ := List.getElem?_eq_some_iff.mp z
      have := List.not_of_lt_findIdx (p := (· == x)) (xs := xs) (i := m) hm
      simp [em] at this
end
end CW
/-! P13 -/
/-! P13: the law's look at rings. -/
namespace CW
open PySem PySem.Spec PyProof.Rows L2
def rLRing (C : Addr) (as : List D) (d : D) : Prop := ∃ (ps : List Str) (ts : List (Str × Str)) (r : List Str), WOk ps ts ∧ as = [worldD C ps ts, .tupX r] ∧ CT.LongR ps (nearOf ts) r ∧ d = .bl true
def rLCross (C : Addr) (as : List D) (d : D) : Prop := ∃ (ps : List Str) (ts : List (Str × Str)) (r : List Str), WOk ps ts ∧ as = [worldD C ps ts, .tupX r] ∧ CT.LongR ps (nearOf ts) r ∧ d = .lst []
theorem getD_get (r : List Str) (k : Nat) (h : k < r.length) : r[k]? = some (r.getD k Str.empty) := by rw [List.getD_eq_getElem?_getD, List.getElem?_eq_getElem h]; rfl
/-- the one before, the last before the first -/
def prv (r : List Str) (k : Nat) : Str := match k with
  | 0 => r.getLast?.getD Str.empty
  | k + 1 => r.getD k Str.empty
theorem eqk_ints (xs : List Nat) : Eqk 1 (.lst (xs.map nI)) := eqk_lst fun k _ => eqk_int _
section
variable {P : Program} {w : World} {K : PySem.W.Frag} {mg : Str → Option Value} {base : Heap} {C : Addr} {f : Addr} {fd : FuncData}
theorem sc__law_is_ring : FnScope ["_law_world", "_law_value", "_law_k", "_law_one"] ["_law_world", "_law_value"] (defScope (topS 60)) := ⟨rfl, rfl, rfl, by decide +kernel, rfl, by decide +kernel, by decide +kernel⟩
theorem ok__law_is_ring (T : Kx K mg C) (F : FnP K "_law_is_ring" "_law_is_ring" (topS 60) f fd) (G_law_is_near : Has P w K mg base "_law_is_near" ["_law_world", "_law_one", "_law_other"] 1 (spF G0 (rLNear C))) : FnOk P w K mg base CX0 2 f fd ["_law_world", "_law_value"] (spF G0 (rLRing C)) := by
  have nd := (sc__law_is_ring).nd
  have B := T.b
  refine fn_ok F sc__law_is_ring (fun as d ⟨_, _, _, _, e, _⟩ => by rw [e]; rfl) fun cdv A outer s H E hr => ?_
  have hu := hu_of hr
  refine ⟨_, (pss_cons (ps_if (PW.pt (pw_or (pt_not (pt_val (w_isi K B (pa_cons (pv 1) (pa_cons (pe_bltn (v := .ty "tuple") (by rfl) B.tuple (by decide +kernel) rfl) pa_nil))))) (pw_or (pt_cmpR op_lt (w_len K B (pa_cons (pv 1) pa_nil)) pe_int (nomark _)) (pw_or1 (pt_cmpR (w_neD K hr) (pe_lc (own := [("_law_one", 3)]) rfl nd (w_piT K (pv 1)) (blkOk_by (by kernel_rfl)) (fun _ _ _ _ _ => (pg_name (i := 3) nd rfl (Or.inl rfl))) (fun _ _ _ _ _ => pts_one (PW.pt (pw_or (pt_not (pt_val (w_isi K B (pa_cons (pv 3) (pa_cons (pe_bltn (v := .ty "str") (by rfl) B.str (by decide +kernel) rfl) pa_nil))))) (pw_or1 (pt_cmpR (w_nin K) (pv 3) (pe_dget hu (pv 0) pe_str (fun _ _ => rfl)) rfl))))) (fun _ _ _ _ _ => (pv 3))) (pe_lst pa_nil) (nomark _)))))) (pss_one (ps_ret pe_bl)) pss_nil)
    (pss_cons (ps_if (pt_cmpR op_lt (pe_lenSetT K B (pv 1)) (w_len K B (pa_cons (pv 1) pa_nil)) (nomark _)) (pss_one (ps_ret pe_bl)) pss_nil)
    (pss_one (ps_ret (pe_cmpR (w_eqD K hr) (pe_lc (own := [("_law_k", 2)]) rfl nd (pi_range1 rfl B.range (pa_cons (w_len K B (pa_cons (pv 1) pa_nil)) pa_nil)) (blkOk_by (by kernel_rfl)) (fun _ _ _ _ _ => (pg_name (i := 2) nd rfl (Or.inl rfl))) (fun _ _ _ _ _ => pts_one (pt_not (pt_val (pe_h G_law_is_near hr (pa_cons (pv 0) (pa_cons (pe_ix (w_ixT K) (pv 1) (pe_op op_sub (pv 2) pe_int) (fun _ _ => rfl)) (pa_cons (pe_ix (w_ixT K) (pv 1) (pv 2) (fun _ _ => rfl)) pa_nil))))))) (fun _ _ _ _ _ => (pv 2))) (pe_lst pa_nil) (nomark _)))))), ?_⟩
  rintro as d ⟨ps, ts, r, hw, rfl, hr2, rfl⟩
  have g := hw.g
  have rlen : r.length ≤ 16 := Nat.le_trans (CT.len_le_of_sub hr2.nd hr2.on) hw.p.sz
  have r4 := hr2.ln
  have pin : ∀ k, k < r.length → prv r k ∈ ps := fun k hk => by
    cases k with
    | zero =>
      have hne : r ≠ [] := fun z => by rw [z] at r4; simp at r4
      show r.getLast?.getD Str.empty ∈ ps
      rw [List.getLast?_eq_some_getLast hne]
      exact hr2.on _ (List.getLast_mem hne)
    | succ k =>
      show r.getD k Str.empty ∈ ps
      rw [List.getD_eq_getElem?_getD, List.getElem?_eq_getElem (by omega)]
      exact hr2.on _ (List.getElem_mem _)
  have rin : ∀ k, k < r.length → r.getD k Str.empty ∈ ps := fun k hk => by
    rw [List.getD_eq_getElem?_getD, List.getElem?_eq_getElem hk]
    exact hr2.on _ (List.getElem_mem _)
  have allnear : ∀ k ∈ List.range r.length, (!nearOf ts (prv r k) (r.getD k Str.empty)) = false := fun k hk => by
    have hk := List.mem_range.mp hk
    have eg : r[k]? = some (r.getD k Str.empty) := by rw [List.getD_eq_getElem?_getD, List.getElem?_eq_getElem hk]; rfl
    cases k with
    | zero =>
      have hne : r ≠ [] := fun z => by rw [z] at r4; simp at r4
      have e2 : r.getLast? = some (prv r 0) := by
        show r.getLast? = some (r.getLast?.getD Str.empty)
        rw [List.getLast?_eq_some_getLast hne]; rfl
      have := hr2.cl _ _ eg e2
      have sy : nearOf ts (prv r 0) (r.getD 0 Str.empty) = nearOf ts (r.getD 0 Str.empty) (prv r 0) := g.sy _ _
      rw [sy, this]; rfl
    | succ k =>
      have eg2 : r[k]? = some (r.getD k Str.empty) := by rw [List.getD_eq_getElem?_getD, List.getElem?_eq_getElem (by omega)]; rfl
      have := hr2.nx k _ _ eg2 eg
      show (!nearOf ts (r.getD k Str.empty) _) = false
      rw [this]; rfl
  have e0 : (r.filter fun x => !true || !decide (x ∈ ps)) = [] := List.filter_eq_nil_iff.mpr fun x hx => by simp [hr2.on x hx]
  have e1 : ((List.range r.length).filter fun k => !nearOf ts (prv r k) (r.getD k Str.empty)) = [] := List.filter_eq_nil_iff.mpr fun k hk => by rw [allnear k hk]; exact Bool.false_ne_true
  refine SvD.e <| sv_seq (sv_if (k := false) (TvD.is (tv_or (tv_not (tv_B (ev_cb (av_cons (ev_var rfl) (av_cons ev_ty av_nil)) isi_tupX))) fun _ => tv_or (tv_test (ev_op (ev_cb (av_cons (ev_var rfl) av_nil) ra_lenX) ev_int rd_lt)) fun _ =>
      tv_test (ev_op (EvN.ev (ev_lcF (xs := r) (enc := .str) (f := fun x => !true || !decide (x ∈ ps)) (wv_tupX (ev_var rfl)) (fun x hx => ⟨_, gv_name (by decide), tv_or (tv_not (tv_B (ev_cb (av_cons (ev_var rfl) (av_cons ev_ty av_nil)) isi_strY))) fun _ => tv_test (ev_op (ev_var rfl) (ev_dget (ev_var rfl) ev_str rfl) rd_ninL), fun _ => ev_var rfl⟩) (by omega))) (ev_lst av_nil) (rd_notNil (eqk_posts g (fun x hx => hr2.on x (List.mem_filter.mp hx).1))))) ?_) (fun h => by cases h) fun _ => sv_next)
    (sv_seq (sv_if (k := false) (tv_test (EvD.is (ev_op (ev_lenSetX (ev_var rfl) hr2.nd (by omega)) (ev_cb (av_cons (ev_var rfl) av_nil) ra_lenX) rd_lt) ?_)) (fun h => by cases h) fun _ => sv_next)
    (sv_ret (EvD.is (ev_op (EvN.ev (ev_lcF (xs := List.range r.length) (enc := nI) (f := fun k => !nearOf ts (prv r k) (r.getD k Str.empty)) (wv_rng1 (n := r.length) (av_cons (ev_cb (av_cons (ev_var rfl) av_nil) ra_lenX) av_nil) (by omega)) (fun k hk => ⟨_, gv_name (by decide),
      tv_not (tv_B (ev_call0 (av_cons (ev_var rfl) (av_cons (?_ : EvD G0 _ _ (.str (prv r k))) (av_cons (ev_op (ev_var rfl) (ev_var rfl) (rd_ixX (n := k) rfl (getD_get r k (List.mem_range.mp hk)))) av_nil))) ⟨ps, ts, _, _, hw, rfl, pin k (List.mem_range.mp hk), rin k (List.mem_range.mp hk), rfl⟩)), fun _ => ev_var rfl⟩) (by rw [List.length_range]; omega))) (ev_lst av_nil) (rd_isNil (eqk_ints _))) (by rw [e1]; rfl))))
  · rw [e0, decide_eq_false (by omega)]; rfl
  · rw [decide_eq_false (by omega)]
  · cases k with
    | zero =>
      refine ev_op (ev_var rfl) (ev_op (ev_var rfl) ev_int rd_sub) (rd_ixXn ?_)
      have hne : r ≠ [] := fun z => by rw [z] at r4; simp at r4
      show r.getLast? = some (r.getLast?.getD Str.empty)
      rw [List.getLast?_eq_some_getLast hne]; rfl
    | succ k =>
      have := List.mem_range.mp hk
      exact ev_op (ev_var rfl) (ev_op (ev_var rfl) ev_int rd_sub) (rd_ixX (n := k) (by show ((k + 1 : Nat) : Int) - 1 = k; omega) (getD_get r k (by omega)))
end
end CW
/-! P14 -/
/-! P14: no chord, is_long. -/
namespace CW
open PySem PySem.Spec PyProof.Rows L2
section
variable {Γ : Gam} {ρ : Rho} {to ty ta tb : TE} {K : PySem.W.Frag} {xs : List Str} {x : Str} {ds es : List D}
theorem en_cat (ha : EvD Γ ta ρ (.lst ds)) (hb : EvD Γ tb ρ (.lst es)) (hz : ds.length + es.length ≤ 90000) : EvN Γ (tOp rCat ta tb) ρ (.lst (ds ++ es)) := fun σ S H s k Q q => ha σ S H s k _ fun x S1 H1 n1 a => hb σ S1 H1 (s.mono n1.ex) n1.ok _ fun y S2 H2 n2 b => by
  cases a with
  | lst e1 a1 =>
    cases b with
    | lst e2 a2 =>
      refine ⟨_, _, _, _, rfl, rfl, n2.ok.ex _ _ (n2.ex _ _ e1), n2.ok.ex _ _ e2, szl (by rw [a1.length, a2.length]; omega), fun p hp => ?_⟩
      exact q p S2 _ _ ((n1.trans n2).trans (.hid n2.ok hp _)) (live_of n1 (live_of n2 hp)) (n2.ok.fresh hp) upd_same (.lst ((a1.mono n2.ex).append a2))
theorem ra_abs {i : Int} : RDA Γ (fun xs H Q => ∃ i, xs = [.int i] ∧ Q (.int (if i < 0 then -i else i)) H) [.int i] (.int (if i < 0 then -i else i)) := fun us S H a k Q q => by
  cases a with
  | cons h t => cases t; cases h; exact ⟨i, rfl, q _ S H (.refl k) (.int _)⟩
end
/-- two of a long ring that are near are next to each other -/
theorem ring_apart {ps : List Str} {n : Str → Str → Bool} {r : List Str} (sy : ∀ x y, n x y = n y x) (h : CT.LongR ps n r) {a b : Str} (ha : a ∈ r) (hb : b ∈ r) (hn : n a b = true) :
    (decide (1 < (if ((r.idxOf a : Nat) : Int) - (r.idxOf b : Nat) < 0 then -(((r.idxOf a : Nat) : Int) - (r.idxOf b : Nat)) else ((r.idxOf a : Nat) : Int) - (r.idxOf b : Nat))) &&
      decide ((if ((r.idxOf a : Nat) : Int) - (r.idxOf b : Nat) < 0 then -(((r.idxOf a : Nat) : Int) - (r.idxOf b : Nat)) else ((r.idxOf a : Nat) : Int) - (r.idxOf b : Nat)) < (r.length : Int) - 1)) = false := by
  have la : r.idxOf a < r.length := List.idxOf_lt_length_iff.mpr ha
  have lb : r.idxOf b < r.length := List.idxOf_lt_length_iff.mpr hb
  have ga : r[r.idxOf a]? = some a := by rw [List.getElem?_eq_getElem la, List.getElem_idxOf la]
  have gb : r[r.idxOf b]? = some b := by rw [List.getElem?_eq_getElem lb, List.getElem_idxOf lb]
  rw [Bool.and_eq_false_iff]
  by_cases c1 : r.idxOf a + 1 < r.idxOf b
  · have := h.ch _ _ a b c1 ga gb hn
    right
    rw [decide_eq_false_iff_not]
    split <;> omega
  · by_cases c2 : r.idxOf b + 1 < r.idxOf a
    · have := h.ch _ _ b a c2 gb ga (by rw [sy]; exact hn)
      right
      rw [decide_eq_false_iff_not]
      split <;> omega
    · left
      rw [decide_eq_false_iff_not]
      split <;> omega
section
variable {P : Program} {w : World} {K : PySem.W.Frag} {mg : Str → Option Value} {base : Heap} {C : Addr} {f : Addr} {fd : FuncData}
theorem sc__law_cross : FnScope ["_law_world", "_law_ring", "_law_k", "_law_found", "_law_posts", "_law_other", "_law_apart"] ["_law_world", "_law_ring"] (defScope (topS 61)) := ⟨rfl, rfl, rfl, by decide +kernel, rfl, by decide +kernel, by decide +kernel⟩
theorem ok__law_cross (T : Kx K mg C) (F : FnP K "_law_cross" "_law_cross" (topS 61) f fd) (G_law_is_near : Has P w K mg base "_law_is_near" ["_law_world", "_law_one", "_law_other"] 1 (spF G0 (rLNear C))) : FnOk P w K mg base CX0 2 f fd ["_law_world", "_law_ring"] (spF G0 (rLCross C)) := by
  have nd := (sc__law_cross).nd
  have B := T.b
  refine fn_ok F sc__law_cross (fun as d ⟨_, _, _, _, e, _⟩ => by rw [e]; rfl) fun cdv A outer s H E hr => ?_
  have hu := hu_of hr
  refine ⟨_, (pss_cons (ps_par (i := 3) (j := 4) rfl nd rfl rfl (by decide) rfl rfl (pa_cons (pe_lst pa_nil) (pa_cons (pe_dget hu (pv 0) pe_str (fun _ _ => rfl)) pa_nil)) rfl)
    (pss_cons (ps_for PassesOwn.never rfl (pi_range1 rfl B.range (pa_cons (w_len K B (pa_cons (pv 4) pa_nil)) pa_nil)) (pg_name (i := 2) nd rfl (Or.inl rfl))
    (pss_one (ps_for PassesOwn.never rfl (w_piL K (pe_slice (w_slL K) (pv 4) (po_some (pe_op op_add (pv 2) pe_int)) po_none)) (pg_name (i := 5) nd rfl (Or.inl rfl))
    (pss_one (ps_if (PW.pt (pw_and (pt_cmpR (w_in K) (pe_ix (w_ixL K) (pv 4) (pv 2) (fun _ _ => rfl)) (pv 1) rfl) (pw_and (pt_cmpR (w_in K) (pv 5) (pv 1) rfl) (pw_and1 (pt_val (pe_h G_law_is_near hr (pa_cons (pv 0) (pa_cons (pe_ix (w_ixL K) (pv 4) (pv 2) (fun _ _ => rfl)) (pa_cons (pv 5) pa_nil))))))))) (pss_cons (ps_set (i := 6) nd rfl (Or.inl rfl) (pe_callB call_abs (by rfl) B.abs (by decide +kernel) (pa_cons (pe_op op_sub (pe_tix K (pv 1) (pa_cons (pe_ix (w_ixL K) (pv 4) (pv 2) (fun _ _ => rfl)) pa_nil)) (pe_tix K (pv 1) (pa_cons (pv 5) pa_nil))) pa_nil)))
    (pss_one (ps_set (i := 3) nd rfl (Or.inl rfl) (pe_op op_cat (pv 3) (pe_ifExp (PW.pt (pw_and (pt_cmpR op_gt (pv 6) pe_int (nomark _)) (pw_and1 (pt_cmpR op_lt (pv 6) (pe_op op_sub (w_len K B (pa_cons (pv 1) pa_nil)) pe_int) (nomark _))))) (pe_lst (pa_cons (pe_tup (pa_cons (pe_ix (w_ixL K) (pv 4) (pv 2) (fun _ _ => rfl)) (pa_cons (pv 5) pa_nil))) pa_nil)) (pe_lst pa_nil)))))) pss_nil)))))
    (pss_one (ps_ret (pv 3))))), ?_⟩
  rintro as d ⟨ps, ts, r, hw, rfl, hr2, rfl⟩
  have g := hw.g
  have hs := hw.p.sz
  have rlen : r.length ≤ 16 := Nat.le_trans (CT.len_le_of_sub hr2.nd hr2.on) hw.p.sz
  refine SvD.e <| sv_seq (sv_par_ii (ev_lst av_nil) (ev_dget (ev_var rfl) ev_str rfl)) (sv_seq (sv_forA (vs := [2, 5, 6]) (xs := List.range ps.length) (enc := nI) (wv_rng1 (n := ps.length) (av_cons (EvD.is (ev_cb (av_cons (ev_var rfl) av_nil) ra_len) (by rw [List.length_map])) av_nil) (by omega)) (by intro j _; rfl) (fun i k hk => ?_)) (sv_ret (ev_var rfl)))
  have hk2 := List.mem_range.mp (List.mem_of_getElem? hk)
  have gk : ps[k]? = some (ps.getD k Str.empty) := getD_get ps k hk2
  have mk : ps.getD k Str.empty ∈ ps := List.mem_of_getElem? gk
  refine ⟨_, [some (worldD C ps ts), some (.tupX r), some (nI k), some (.lst []), some (.lst (sS ps)), none, none], gv_name (by decide), .inl ?_, rfl⟩
  refine sv_forA (vs := [5, 6]) (xs := ps.drop (k + 1)) (enc := .str) (wv_list (EvD.is (EvN.ev (ev_fromL (n := k + 1) (ev_var rfl) (pv_some (ev_op (ev_var rfl) ev_int rd_add)) (by simp))) (by rw [List.map_drop]))) (by intro j _; rfl) (fun j o ho => ?_)
  have mo : o ∈ ps := List.mem_of_mem_drop (List.mem_of_getElem? ho)
  refine ⟨_, [some (worldD C ps ts), some (.tupX r), some (nI k), some (.lst []), some (.lst (sS ps)), some (.str o), none], gv_name (by decide), .inl ?_, rfl⟩
  have ik : ∀ {ρ : Rho}, ρ[4]? = some (some (.lst (sS ps))) → ρ[2]? = some (some (nI k)) → EvD G0 (tOp (rIxL K) (tVar 4) (tVar 2)) ρ (.str (ps.getD k Str.empty)) := fun h1 h2 => ev_op (ev_var h1) (ev_var h2) (rd_ixL (n := k) rfl (getD_map ps .str k Str.empty hk2))
  refine sv_if (k := decide (ps.getD k Str.empty ∈ r) && (decide (o ∈ r) && nearOf ts (ps.getD k Str.empty) o)) (tv_and (tv_test (ev_op (ik rfl rfl) (ev_var rfl) rd_inX)) fun _ => tv_and (tv_test (ev_op (ev_var rfl) (ev_var rfl) rd_inX)) fun _ => tv_B (ev_call0 (av_cons (ev_var rfl) (av_cons (ik rfl rfl) (av_cons (ev_var rfl) av_nil))) ⟨ps, ts, _, o, hw, rfl, mk, mo, rfl⟩)) (fun hc => ?_) fun _ => sv_next
  rw [Bool.and_eq_true, Bool.and_eq_true] at hc
  have ma := of_decide_eq_true hc.1
  have mb := of_decide_eq_true hc.2.1
  exact sv_toN [6] (sv_seq (sv_asg (i := 6) (ev_cb (av_cons (ev_op (ev_tix (ev_var rfl) (ik rfl rfl) ma) (ev_tix (ev_var rfl) (ev_var rfl) mb) rd_sub) av_nil) ra_abs))
    (sv_asg (i := 3) (EvN.ev (en_cat (es := []) (ev_var rfl) (ev_if (k := false) (TvD.is (tv_and (tv_test (ev_op (ev_var rfl) ev_int rd_gt)) fun _ => tv_test (ev_op (ev_var rfl) (ev_op (ev_cb (av_cons (ev_var rfl) av_nil) ra_lenX) ev_int rd_sub) rd_lt)) (ring_apart g.sy hr2 ma mb hc.2.2)) (fun h => by cases h) fun _ => ev_lst av_nil) (by show 0 + 0 ≤ 90000; decide))))) rfl rfl
end
end CW
/-! P15 -/
/-! P15: is_long, the law's crowds. -/
namespace CW
open PySem PySem.Spec PyProof.Rows L2
section
variable {P : Program} {w : World} {K : PySem.W.Frag} {mg : Str → Option Value} {base : Heap} {C : Addr} {f : Addr} {fd : FuncData}
theorem sc__law_is_long : FnScope ["_law_world", "_law_value"] ["_law_world", "_law_value"] (defScope (topS 62)) := ⟨rfl, rfl, rfl, by decide +kernel, rfl, by decide +kernel, by decide +kernel⟩
theorem ok__law_is_long (T : Kx K mg C) (F : FnP K "_law_is_long" "_law_is_long" (topS 62) f fd) (G_law_is_ring : Has P w K mg base "_law_is_ring" ["_law_world", "_law_value"] 2 (spF G0 (rLRing C))) (G_law_cross : Has P w K mg base "_law_cross" ["_law_world", "_law_ring"] 2 (spF G0 (rLCross C))) : FnOk P w K mg base CX0 3 f fd ["_law_world", "_law_value"] (spF G0 (rLRing C)) := by
  have nd := (sc__law_is_long).nd
  have B := T.b
  refine fn_ok F sc__law_is_long (fun as d ⟨_, _, _, _, e, _⟩ => by rw [e]; rfl) fun cdv A outer s H E hr => ?_
  refine ⟨_, (pss_one (ps_ret (pe_and (pe_h G_law_is_ring hr (pa_cons (pv 0) (pa_cons (pv 1) pa_nil))) (pe_and (pe_cmpR op_gt (w_len K B (pa_cons (pv 1) pa_nil)) pe_int (nomark _)) (pe_one (pe_cmpR (w_eqD K hr) (pe_h G_law_cross hr (pa_cons (pv 0) (pa_cons (pv 1) pa_nil))) (pe_lst pa_nil) (nomark _))))))), ?_⟩
  rintro as d ⟨ps, ts, r, hw, rfl, hr2, rfl⟩
  have r4 := hr2.ln
  refine SvD.e <| sv_ret (EvD.is (ev_andV (ev_call0 (av_cons (ev_var rfl) (av_cons (ev_var rfl) av_nil)) ⟨ps, ts, r, hw, rfl, hr2, rfl⟩) fun _ => ev_andV (ev_op (ev_cb (av_cons (ev_var rfl) av_nil) ra_lenX) ev_int rd_gt) fun _ =>
    ev_op (ev_call0 (av_cons (ev_var rfl) (av_cons (ev_var rfl) av_nil)) ⟨ps, ts, r, hw, rfl, hr2, rfl⟩) (ev_lst av_nil) (rd_isNil (xs := ([] : List Nat)) (enc := nI) (eqk_ints []))) ?_)
  rw [decide_eq_true (by omega)]; rfl
end
end CW
/-! W20 -/
/-! W20: values of which only a property is told. -/
namespace CW
open PySem PySem.Spec PyProof.Rows L2
def EvP (Γ : Gam) (te : TE) (ρ : Rho) (P : D → Prop) : Prop := ∀ (σ : L2.St) (S H : Hp), Sl S σ ρ → Ok Γ S H → ∀ Q : VK, (∀ v S2 H2 d, P d → Nx Γ S H S2 H2 → At S2 v d → Q v H2) → te σ H Q
/-- .. a new object -/
def EnP (Γ : Gam) (te : TE) (ρ : Rho) (P : D → Prop) : Prop := ∀ (σ : L2.St) (S H : Hp), Sl S σ ρ → Ok Γ S H → ∀ Q : VK, (∀ p S2 H2 o d, P d → Nx Γ S H S2 H2 → H p = none → S2 p = none → H2 p = some o → AtO S2 o d → Q (.ref p) H2) → te σ H Q
def TvP (Γ : Gam) (tt : TT) (ρ : Rho) (B : Bool → Prop) : Prop := ∀ (σ : L2.St) (S H : Hp), Sl S σ ρ → Ok Γ S H → ∀ Q : Bool → Hp → Prop, (∀ b S2 H2, B b → Nx Γ S H S2 H2 → Q b H2) → tt σ H Q
def AvP (Γ : Gam) (ta : TA) (ρ : Rho) (P : List D → Prop) : Prop := ∀ (σ : L2.St) (S H : Hp), Sl S σ ρ → Ok Γ S H → ∀ Q : List V → Hp → Prop, (∀ vs S2 H2 ds, P ds → Nx Γ S H S2 H2 → AtAll S2 vs ds → Q vs H2) → ta σ H Q
def WvP {β : Type} (Γ : Gam) (wi : TI) (ρ : Rho) (enc : β → D) (P : List β → Prop) : Prop := ∀ (σ : L2.St) (S H : Hp), Sl S σ ρ → Ok Γ S H → ∀ R : It → Hp → Prop, (∀ J S2 H2 xs, P xs → Nx Γ S H S2 H2 → Wk Γ J S2 (xs.map enc) → R J H2) → wi σ H R
def PvP (Γ : Gam) (to : TO) (ρ : Rho) (P : Option Int → Prop) : Prop := ∀ (σ : L2.St) (S H : Hp), Sl S σ ρ → Ok Γ S H → ∀ Q : Option Int → Hp → Prop, (∀ o S2 H2, P o → Nx Γ S H S2 H2 → Q o H2) → to σ H Q
section
variable {Γ : Gam} {ρ : Rho} {te ta tb : TE} {tt tu : TT} {t : TA} {P P1 P2 : D → Prop} {d : D} {β γ : Type} {K : PySem.W.Frag}
theorem EvD.p (h : EvD Γ te ρ d) (hp : P d) : EvP Γ te ρ P := fun σ S H s k Q q => h σ S H s k Q fun v S2 H2 n a => q v S2 H2 d hp n a
theorem EvN.p (h : EvN Γ te ρ d) (hp : P d) : EnP Γ te ρ P := fun σ S H s k Q q => h σ S H s k Q fun p S2 H2 o n h0 hs ho a => q p S2 H2 o d hp n h0 hs ho a
theorem EnP.ev (h : EnP Γ te ρ P) : EvP Γ te ρ P := fun σ S H s k Q q => h σ S H s k Q fun p S2 H2 o d hd n hp hs ho a =>
  q _ _ _ d hd (n.freeze hp hs ho k) ((a.mono (Ex.new hs)).at_ upd_same)
theorem EvP.imp (h : EvP Γ te ρ P) (hp : ∀ d, P d → P1 d) : EvP Γ te ρ P1 := fun σ S H s k Q q => h σ S H s k Q fun v S2 H2 d hd n a => q v S2 H2 d (hp d hd) n a
theorem EnP.imp (h : EnP Γ te ρ P) (hp : ∀ d, P d → P1 d) : EnP Γ te ρ P1 := fun σ S H s k Q q => h σ S H s k Q fun p S2 H2 o d hd => q p S2 H2 o d (hp d hd)
theorem TvD.p {b : Bool} {B : Bool → Prop} (h : TvD Γ tt ρ b) (hb : B b) : TvP Γ tt ρ B := fun σ S H s k Q q => h σ S H s k Q fun S2 H2 n => q b S2 H2 hb n
theorem tvp_test {B : Bool → Prop} (h : EvP Γ te ρ fun d => ∃ b, B b ∧ d = .bl b) : TvP Γ (tTest te) ρ B := fun σ S H s o Q q => h σ S H s o _ fun v S2 H2 d hd n a => by
  obtain ⟨b, hb, rfl⟩ := hd
  cases a; exact ⟨b, rfl, q b S2 H2 hb n⟩
theorem tvp_and {B : Bool → Prop} {k : Bool} (h1 : TvD Γ tt ρ k) (h2 : k = true → TvP Γ tu ρ B) (h3 : k = false → B false) : TvP Γ (tAnd tt tu) ρ B := fun σ S H s o Q q => h1 σ S H s o _ fun S1 H1 n => by
  cases k with
  | true => show tu σ H1 Q; exact h2 rfl σ S1 H1 (s.mono n.ex) n.ok Q fun b S2 H2 hb m => q b S2 H2 hb (n.trans m)
  | false => exact q false S1 H1 (h3 rfl) n
theorem avp_cons {P1 : D → Prop} {PL : List D → Prop} {tr : TA} (ha : EvP Γ ta ρ P1) (hr : AvP Γ tr ρ PL) : AvP Γ (tCons ta tr) ρ (fun ds => ∃ d r, ds = d :: r ∧ P1 d ∧ PL r) := fun σ S H s k Q q =>
  ha σ S H s k _ fun x S1 H1 d1 p1 n1 h1 => hr σ S1 H1 (s.mono n1.ex) n1.ok _ fun vs S2 H2 r pr n2 h2 => q (x :: vs) S2 H2 (d1 :: r) ⟨d1, r, rfl, p1, pr⟩ (n1.trans n2) (.cons (h1.mono n2.ex) h2)
theorem avp_nil : AvP Γ tNil ρ (fun ds => ds = []) := fun σ S H s k Q q => q [] S H [] rfl (.refl k) .nil
theorem AvD.p {ds : List D} {PL : List D → Prop} (h : AvD Γ t ρ ds) (hp : PL ds) : AvP Γ t ρ PL := fun σ S H s k Q q => h σ S H s k Q fun vs S2 H2 n a => q vs S2 H2 ds hp n a
theorem evp_op {r : R2} (ha : EvP Γ ta ρ P1) (hb : EvP Γ tb ρ P2) (hr : ∀ a b, P1 a → P2 b → ∃ c, P c ∧ RD2 Γ r a b c) : EvP Γ (tOp r ta tb) ρ P := fun σ S H s k Q q =>
  ha σ S H s k _ fun x S1 H1 d1 p1 n1 h1 => hb σ S1 H1 (s.mono n1.ex) n1.ok _ fun y S2 H2 d2 p2 n2 h2 => by
    obtain ⟨c, pc, hc⟩ := hr d1 d2 p1 p2
    exact hc x y S2 H2 (h1.mono n2.ex) h2 n2.ok Q fun v S3 H3 n3 h3 => q v S3 H3 c pc ((n1.trans n2).trans n3) h3
theorem evp_cb {r : List V → Hp → VK → Prop} {PL : List D → Prop} (ha : AvP Γ t ρ PL) (hr : ∀ ds, PL ds → ∃ c, P c ∧ RDA Γ r ds c) : EvP Γ (tCB r t) ρ P := fun σ S H s k Q q =>
  ha σ S H s k _ fun vs S1 H1 ds pd n1 h1 => by
    obtain ⟨c, pc, hc⟩ := hr ds pd
    exact hc vs S1 H1 h1 n1.ok Q fun v S3 H3 n3 h3 => q v S3 H3 c pc (n1.trans n3) h3
theorem evp_if {b : Bool} (h : TvD Γ tt ρ b) (h1 : b = true → EvP Γ ta ρ P) (h2 : b = false → EvP Γ tb ρ P) : EvP Γ (tIf tt ta tb) ρ P := fun σ S H s o Q q => h σ S H s o _ fun S1 H1 n => by
  cases b with
  | true => show ta σ H1 Q; exact h1 rfl σ S1 H1 (s.mono n.ex) n.ok Q fun v S2 H2 d hd m => q v S2 H2 d hd (n.trans m)
  | false => show tb σ H1 Q; exact h2 rfl σ S1 H1 (s.mono n.ex) n.ok Q fun v S2 H2 d hd m => q v S2 H2 d hd (n.trans m)
theorem pvp_some {te : TE} (h : EvP Γ te ρ fun d => ∃ i, d = .int i ∧ (fun o => ∃ j, o = some j ∧ P1 (.int j)) (some i)) : PvP Γ (tPart te) ρ (fun o => ∃ j, o = some j ∧ P1 (.int j)) := fun σ S H s k Q q => h σ S H s k _ fun v S2 H2 d hd n a => by
  obtain ⟨i, rfl, hi⟩ := hd
  cases a; exact ⟨i, rfl, q _ S2 H2 hi n⟩
/-! ### walks -/
theorem WvD.p {xs : List β} {enc : β → D} {wi : TI} {PX : List β → Prop} (h : WvD Γ wi ρ (xs.map enc)) (hp : PX xs) : WvP Γ wi ρ enc PX := fun σ S H s k R q => h σ S H s k R fun J S2 H2 n w => q J S2 H2 xs hp n w
theorem wvp_list {enc : β → D} {PX : List β → Prop} (h : EvP Γ te ρ fun d => ∃ xs, PX xs ∧ d = .lst (xs.map enc)) : WvP Γ (iList K te) ρ enc PX := fun σ S H s k R q => h σ S H s k _ fun v S1 H1 d hd n a => by
  obtain ⟨xs, hx, rfl⟩ := hd
  cases a with
  | lst e al =>
    rename_i p vs
    have w := walk_list (K := K) (a := p) (xs := vs)
    have le := al.length
    have here : ∀ {S' H'}, Ex S1 S' → Ok Γ S' H' → SqL K H' p vs := fun e1 k1 => .of (k1.ex _ _ (e1 _ _ e))
    refine ⟨_, rfl, ⟨vs, .of (n.ok.ex _ _ e)⟩, q _ S1 H1 xs hx n ⟨fun i S' H' hi e1 k1 => w.goes i H' (by omega) (here e1 k1), fun S' H' e1 k1 => le ▸ w.stops H' (here e1 k1), fun i x S' H' H'' hi e1 k1 y => ?_⟩⟩
    obtain ⟨rfl, hx2⟩ := w.yields i H' x H'' (by omega) (here e1 k1) y
    obtain ⟨d, hd, ad⟩ := al.get hx2
    exact ⟨S', d, .refl k1, hd, ad.mono e1⟩
end
/-! ### comprehensions -/
inductive All2 {β γ : Type} (R : β → γ → Prop) : List β → List γ → Prop
  | nil : All2 R [] []
  | cons {x y xs ys} : R x y → All2 R xs ys → All2 R (x :: xs) (y :: ys)
theorem All2.snoc {β γ : Type} {R : β → γ → Prop} {x : β} {y : γ} (h : R x y) : ∀ {xs : List β} {ys : List γ}, All2 R xs ys → All2 R (xs ++ [x]) (ys ++ [y])
  | _, _, .nil => .cons h .nil
  | _, _, .cons g t => .cons g (t.snoc h)
theorem All2.len {β γ : Type} {R : β → γ → Prop} : ∀ {xs : List β} {ys : List γ}, All2 R xs ys → ys.length = xs.length
  | _, _, .nil => rfl
  | _, _, .cons _ t => congrArg (· + 1) t.len
section
variable {Γ : Gam} {ρ : Rho} {te : TE} {tt : TT} {wi : TI} {g : TG} {β γ : Type} {enc : β → D} {enc2 : γ → D} {vs : List Nat} {PX : List β → Prop} {R : β → γ → Prop}
/-- each item makes something that stands in R to it -/
theorem enp_lcM (hw : WvP Γ wi ρ enc PX) (hz : ∀ xs, PX xs → xs.length ≤ 90000) (hb : ∀ xs, PX xs → ∀ x ∈ xs, ∃ ρ', GvD Γ g vs (wipeD ρ vs) (enc x) ρ' ∧ EvP Γ te ρ' fun d => ∃ y, R x y ∧ d = enc2 y) :
    EnP Γ (tLc wi g tYes te vs) ρ (fun d => ∃ xs ys, PX xs ∧ All2 R xs ys ∧ d = .lst (ys.map enc2)) := fun σ S H s k Q q => hw σ S H s k _ fun J S1 H1 xs px n1 w => by
  intro Dl hD
  have hS1 := n1.ok.fresh hD
  have hz := hz xs px
  refine ⟨fun i m H' => m = xs.length - i ∧ i ≤ xs.length ∧ ∃ S' acc ys, Nx Γ S1 H1 S' H' ∧ S' Dl = none ∧ H' Dl = some (.lst acc) ∧ All2 R (xs.take i) ys ∧ AtAll S' acc (ys.map enc2),
    ⟨xs.length, rfl, Nat.zero_le _, S1, [], [], .hid n1.ok hD _, hS1, upd_same, by simpa using All2.nil, .nil⟩, ?_⟩
  rintro i m H' ⟨rfl, hi, S', acc, ys, n2, hs, hd, hy, al⟩
  have e2 := n2.ex
  by_cases hlt : i < xs.length
  · refine .inr ⟨w.go i S' H' (by simpa using hlt) e2 n2.ok, fun H'' => i + 1 ≤ xs.length ∧ ∃ S' acc ys, Nx Γ S1 H1 S' H'' ∧ S' Dl = none ∧ H'' Dl = some (.lst acc) ∧ All2 R (xs.take (i + 1)) ys ∧ AtAll S' acc (ys.map enc2),
      fun H'' z => ⟨xs.length - (i + 1), by omega, rfl, z.1, z.2⟩, fun x H'' y => ?_⟩
    obtain ⟨S3, d, n3, hdx, ad⟩ := w.yld i x S' H' H'' (by simpa using hlt) e2 n2.ok y
    have hx : xs[i]? = some xs[i] := List.getElem?_eq_getElem hlt
    rw [List.getElem?_map, hx] at hdx
    cases hdx
    obtain ⟨ρ', hg, he⟩ := hb xs px xs[i] (List.getElem_mem hlt)
    have sW : Sl S3 (L2.wipe σ vs) (wipeD ρ vs) := (s.mono (n1.ex.trans (e2.trans n3.ex))).wipe vs
    refine hg x _ S3 H'' ad sW n3.ok _ fun σ2 s2 l2 ag => ⟨by rw [wipe_agree (τ := L2.wipe σ vs) l2 ag, wipe_wipe], ?_⟩
    show te σ2 H'' _
    refine he σ2 S3 H'' s2 n3.ok _ fun v S5 H5 d5 hd5' n5 a5 => ?_
    obtain ⟨y5, r5, rfl⟩ := hd5'
    have n35 := n3.trans n5
    have hd5 : H5 Dl = some (.lst acc) := n35.fr _ _ (n1.ok.nb hD) hd
    have hs5 : S5 Dl = none := (n35.old Dl (by rw [hd]; exact fun z => nomatch z)).trans hs
    have tk : xs.take (i + 1) = xs.take i ++ [xs[i]] := by rw [List.take_add_one, hx]; rfl
    have li := al.length
    have l3 := hy.len
    rw [List.length_map] at li
    rw [List.length_take] at l3
    refine ⟨acc, hd5, szlt (by omega), hlt, S5, acc ++ [v], ys ++ [y5], (n2.trans n35).mut hD hs5 hd5 (fun z => z) n1.ok _, hs5, upd_same, ?_, ?_⟩
    · rw [tk]; exact hy.snoc r5
    · rw [List.map_append]; exact (al.mono n35.ex).snoc a5
  · have e : i = xs.length := by omega
    subst e
    rw [List.take_length] at hy
    exact .inl ⟨by simpa using w.stop S' H' e2 n2.ok, q Dl S' H' (.lst acc) _ ⟨xs, ys, px, hy, rfl⟩ (n1.trans n2) (live_of n1 hD) hs hd (.lst al)⟩
/-- some of the items are taken -/
theorem enp_lcS {xs : List β} {h : β → γ} (hw : WvD Γ wi ρ (xs.map enc)) (hz : xs.length ≤ 90000) (hb : ∀ x ∈ xs, ∃ ρ', GvD Γ g vs (wipeD ρ vs) (enc x) ρ' ∧ TvP Γ tt ρ' (fun _ => True) ∧ EvD Γ te ρ' (enc2 (h x))) :
    EnP Γ (tLc wi g tt te vs) ρ (fun d => ∃ ys : List β, ys.Sublist xs ∧ d = .lst ((ys.map h).map enc2)) := fun σ S H s k Q q => hw σ S H s k _ fun J S1 H1 n1 w => by
  intro Dl hD
  have hS1 := n1.ok.fresh hD
  refine ⟨fun i m H' => m = xs.length - i ∧ i ≤ xs.length ∧ ∃ (S' : Hp) (acc : List V) (ys : List β), Nx Γ S1 H1 S' H' ∧ S' Dl = none ∧ H' Dl = some (.lst acc) ∧ ys.Sublist (xs.take i) ∧ AtAll S' acc ((ys.map h).map enc2),
    ⟨xs.length, rfl, Nat.zero_le _, S1, [], [], .hid n1.ok hD _, hS1, upd_same, by simp, .nil⟩, ?_⟩
  rintro i m H' ⟨rfl, hi, S', acc, ys, n2, hs, hd, hy, al⟩
  have e2 := n2.ex
  by_cases hlt : i < xs.length
  · refine .inr ⟨w.go i S' H' (by simpa using hlt) e2 n2.ok, fun H'' => i + 1 ≤ xs.length ∧ ∃ (S' : Hp) (acc : List V) (ys : List β), Nx Γ S1 H1 S' H'' ∧ S' Dl = none ∧ H'' Dl = some (.lst acc) ∧ ys.Sublist (xs.take (i + 1)) ∧ AtAll S' acc ((ys.map h).map enc2),
      fun H'' z => ⟨xs.length - (i + 1), by omega, rfl, z.1, z.2⟩, fun x H'' y => ?_⟩
    obtain ⟨S3, d, n3, hdx, ad⟩ := w.yld i x S' H' H'' (by simpa using hlt) e2 n2.ok y
    have hx : xs[i]? = some xs[i] := List.getElem?_eq_getElem hlt
    rw [List.getElem?_map, hx] at hdx
    cases hdx
    obtain ⟨ρ', hg, ht, he⟩ := hb xs[i] (List.getElem_mem hlt)
    have sW : Sl S3 (L2.wipe σ vs) (wipeD ρ vs) := (s.mono (n1.ex.trans (e2.trans n3.ex))).wipe vs
    have tk : xs.take (i + 1) = xs.take i ++ [xs[i]] := by rw [List.take_add_one, hx]; rfl
    refine hg x _ S3 H'' ad sW n3.ok _ fun σ2 s2 l2 ag => ⟨by rw [wipe_agree (τ := L2.wipe σ vs) l2 ag, wipe_wipe], ht σ2 S3 H'' s2 n3.ok _ fun b S4 H4 _ n4 => ?_⟩
    have n34 := n3.trans n4
    have hd4 : H4 Dl = some (.lst acc) := n34.fr _ _ (n1.ok.nb hD) hd
    have hs4 : S4 Dl = none := (n34.old Dl (by rw [hd]; exact fun z => nomatch z)).trans hs
    cases b with
    | false =>
      show i + 1 ≤ xs.length ∧ _
      exact ⟨hlt, S4, acc, ys, n2.trans n34, hs4, hd4, by rw [tk]; exact hy.trans (List.sublist_append_left _ _), al.mono n34.ex⟩
    | true =>
      show te σ2 H4 _
      refine he σ2 S4 H4 (s2.mono n4.ex) n4.ok _ fun v S5 H5 n5 a5 => ?_
      have n35 := n34.trans n5
      have hd5 : H5 Dl = some (.lst acc) := n35.fr _ _ (n1.ok.nb hD) hd
      have hs5 : S5 Dl = none := (n35.old Dl (by rw [hd]; exact fun z => nomatch z)).trans hs
      have li := al.length
      have l3 := hy.length_le
      rw [List.length_map, List.length_map] at li
      rw [List.length_take] at l3
      refine ⟨acc, hd5, szlt (by omega), hlt, S5, acc ++ [v], ys ++ [xs[i]], (n2.trans n35).mut hD hs5 hd5 (fun z => z) n1.ok _, hs5, upd_same, ?_, ?_⟩
      · rw [tk]; exact hy.append (List.Sublist.refl _)
      · rw [List.map_append, List.map_append]; exact (al.mono n35.ex).snoc a5
  · have e : i = xs.length := by omega
    subst e
    rw [List.take_length] at hy
    exact .inl ⟨by simpa using w.stop S' H' e2 n2.ok, q Dl S' H' (.lst acc) _ ⟨ys, hy, rfl⟩ (n1.trans n2) (live_of n1 hD) hs hd (.lst al)⟩
end
/-! ### statements -/
def SvP (Γ : Gam) (ts : TS) (ρ : Rho) (μ : Mus) (O : Out → Prop) : Prop := ∀ (S0 H0 F S H : Hp) (σ : L2.St), Ok Γ S0 H0 → Nx Γ S0 H0 S H → Ex F S → Sl S σ ρ → Mu S H H0 σ μ → ∀ Dn : Ends, (∀ o, O o → o.meet Γ S0 H0 F Dn) → ts Dn σ H
section
variable {Γ : Gam} {ρ ρ1 : Rho} {μ μ1 : Mus} {t u : TS} {O O1 : Out → Prop} {o : Out} {te : TE} {tt : TT} {P : D → Prop} {i : Nat} {d : D} {K : PySem.W.Frag}
theorem SvD.p (h : SvD Γ t ρ μ o) (ho : O o) : SvP Γ t ρ μ O := fun S0 H0 F S H σ k0 n f s m Dn q => h S0 H0 F S H σ k0 n f s m Dn (q o ho)
theorem SvP.imp (h : SvP Γ t ρ μ O1) (hO : ∀ o, O1 o → O o) : SvP Γ t ρ μ O := fun S0 H0 F S H σ k0 n f s m Dn q => h S0 H0 F S H σ k0 n f s m Dn fun o ho => q o (hO o ho)
/-- what follows a statement's end -/
def Fol (Γ : Gam) (u : TS) (O : Out → Prop) : Out → Prop
  | .nx ρ μ => SvP Γ u ρ μ O
  | .rt d => O (.rt d)
  | .rn d => O (.rn d)
  | .bk ρ μ => O (.bk ρ μ)
  | .ct ρ μ => O (.ct ρ μ)
theorem svp_seq (h1 : SvP Γ t ρ μ O1) (h2 : ∀ o, O1 o → Fol Γ u O o) : SvP Γ (tSeq t u) ρ μ O := fun S0 H0 F S H σ k0 n f s m Dn q => h1 S0 H0 F S H σ k0 n f s m { Dn with nx := u Dn } fun o ho => by
  have h := h2 o ho
  cases o with
  | nx ρ μ => exact fun σ' S' H' n' f' s' m' => h S0 H0 F S' H' σ' k0 n' f' s' m' Dn q
  | rt d => exact q _ h
  | rn d => exact q _ h
  | bk ρ μ => exact q _ h
  | ct ρ μ => exact q _ h
/-- a first statement that ends in one way -/
theorem svp_seqD (h1 : SvD Γ t ρ μ (.nx ρ1 μ1)) (h2 : SvP Γ u ρ1 μ1 O) : SvP Γ (tSeq t u) ρ μ O := svp_seq (O1 := fun o => o = .nx ρ1 μ1) (h1.p rfl) fun o ho => by subst ho; exact h2
theorem svp_asg (he : EvP Γ te ρ P) (hi : isIn μ i = false := by rfl) : SvP Γ (tAsg te (gName i)) ρ μ (fun o => ∃ d, P d ∧ o = .nx (ρ.set i (some d)) μ) := fun S0 H0 F S H σ k0 n f s m Dn q =>
  he σ S H s n.ok _ fun v S2 H2 d hd n2 a => q _ ⟨d, hd, rfl⟩ _ S2 H2 (n.trans n2) (f.trans n2.ex) ((s.mono n2.ex).set i a) ((m.step k0 n2).set (not_in hi) _)
/-- a scalar, mutable locals read -/
theorem svp_asgS (he : EvP Γ te (frz ρ μ) P) (hP : ∀ d, P d → d.sc = true) (hi : isIn μ i = false := by rfl) : SvP Γ (tAsg te (gName i)) ρ μ (fun o => ∃ d, P d ∧ o = .nx (ρ.set i (some d)) μ) := fun S0 H0 F S H σ k0 n f s m Dn q => by
  obtain ⟨S', n', e', s', _⟩ := m.frz k0 n s
  exact he σ S' H s' n'.ok _ fun v S2 H2 d hd n2 a => q _ ⟨d, hd, rfl⟩ _ S H2 (n.back k0 n2) f (s.set i (a.sc (hP d hd))) ((m.back k0 n2).set (not_in hi) _)
/-- a new list of scalars, mutable locals read -/
theorem svp_asgF (he : EnP Γ te (frz ρ μ) P) (hP : ∀ d, P d → d.flat = true) (hi : isIn μ i = false := by rfl) : SvP Γ (tAsg te (gName i)) ρ μ (fun o => ∃ d, P d ∧ o = .nx (ρ.set i (some d)) μ) := fun S0 H0 F S H σ k0 n f s m Dn q => by
  obtain ⟨S', n', e', s', _⟩ := m.frz k0 n s
  refine he σ S' H s' n'.ok _ fun p S2 H2 o d hd n2 hp hs ho a => ?_
  have m2 := m.back k0 n2
  have h0 := live_of n hp
  have hS := n.ok.fresh hp
  have ne : ∀ j e, (j, e) ∈ μ → ∀ p', σ[j]? = some (some (V.ref p')) → p' ≠ p := fun j e hj p' z1 z2 => by
    obtain ⟨p'', o', h1, _, _, h4, _⟩ := m.at_ j e hj
    rw [h1] at z1; cases z1
    rw [z2, hp] at h4; cases h4
  refine q _ ⟨d, hd, rfl⟩ _ (upd S p o) H2 ((n.back k0 n2).freeze h0 hS ho k0) (f.trans (Ex.new hS)) ((s.mono (Ex.new hS)).set i ((a.sc (hP d hd)).at_ upd_same)) ?_
  have m3 := m2.set (not_in hi) (some (V.ref p))
  refine ⟨fun j e hj => ?_, m3.ds, m3.nd⟩
  obtain ⟨p', o', h1, h2, h3, h4, h5⟩ := m2.at_ j e hj
  obtain ⟨p3, o3, g1, g2, g3, g4, g5⟩ := m3.at_ j e hj
  have e1 : p3 = p' := by
    have z : i ≠ j := fun z => not_in hi (List.mem_map.mpr ⟨_, hj, z.symm⟩)
    rw [List.getElem?_set_ne z, h1] at g1
    injection g1 with g1; injection g1 with g1; injection g1 with g1
    exact g1.symm
  refine ⟨p3, o3, g1, g2, ?_, g4, g5.mono (Ex.new hS)⟩
  rw [upd_ne (by rw [e1]; exact ne j e hj p' h1)]
  exact g3
theorem svp_if {B : Bool → Prop} (h : TvP Γ tt (frz ρ μ) B) (h1 : B true → SvP Γ t ρ μ O) (h2 : B false → SvP Γ u ρ μ O) : SvP Γ (tIfS tt t u) ρ μ O := fun S0 H0 F S H σ k0 n f s m Dn q => by
  obtain ⟨S', n', e', s', _⟩ := m.frz k0 n s
  refine h σ S' H s' n'.ok _ fun b S2 H2 hb n2 => ?_
  cases b with
  | true => exact h1 hb S0 H0 F S H2 σ k0 (n.back k0 n2) f s (m.back k0 n2) Dn q
  | false => exact h2 hb S0 H0 F S H2 σ k0 (n.back k0 n2) f s (m.back k0 n2) Dn q
theorem svp_ret (he : EvP Γ te (frz ρ μ) P) (hO : ∀ d, P d → O (.rt d)) : SvP Γ (tRet te) ρ μ O := fun S0 H0 F S H σ k0 n f s m Dn q => by
  obtain ⟨S', n', e', s', _⟩ := m.frz k0 n s
  exact he σ S' H s' n'.ok _ fun v S2 H2 d hd n2 a => q _ (hO d hd) v S2 H2 (n'.trans n2) a
/-- a for: I holds of the turn, the slots, the mutable locals -/
theorem svp_for {wi : TI} {g : TG} {vs : List Nat} {β : Type} {xs : List β} {enc : β → D} (hw : WvD Γ wi ρ (xs.map enc)) (I : Nat → Rho → Mus → Prop) (h0 : I 0 (wipeD ρ vs) μ)
    (hs : ∀ i x ρi μi, xs[i]? = some x → I i ρi μi → ∃ ρ', GvD Γ g vs ρi (enc x) ρ' ∧ (∀ j ∈ vs, isIn μi j = false) ∧ SvP Γ t ρ' μi fun o => ∃ ρ'' μ'', (o = .nx ρ'' μ'' ∨ o = .ct ρ'' μ'') ∧ I (i + 1) (wipeD ρ'' vs) μ'')
    (hO : ∀ ρ' μ', I xs.length ρ' μ' → O (.nx ρ' μ')) : SvP Γ (tFor wi g t) ρ μ O := by
  intro S0 H0 F S H σ k0 n f s m Dn q
  refine hw σ S H s n.ok _ fun J S1 H1 n1 w => ?_
  have lm : (xs.map enc).length = xs.length := List.length_map ..
  refine ⟨fun i mm σ' H' => mm = xs.length - i ∧ i ≤ xs.length ∧ ∃ S' ρi μi, I i ρi μi ∧ Nx Γ S0 H0 S' H' ∧ Ex S1 S' ∧ Sl S' σ' ρi ∧ Mu S' H' H0 σ' μi,
    ⟨xs.length, rfl, Nat.zero_le _, S1, _, _, h0, n.trans n1, Ex.refl _, (s.mono n1.ex).fgt vs, m.step k0 n1⟩, ?_⟩
  rintro i mm σ' H' ⟨rfl, hi, S', ρi, μi, hI, n', e', s', m'⟩
  by_cases hl : i < xs.length
  · refine .inr ⟨w.go i S' H' (by rw [lm]; exact hl) e' n'.ok, fun σ'' H'' => i + 1 ≤ xs.length ∧ ∃ S'' ρi μi, I (i + 1) ρi μi ∧ Nx Γ S0 H0 S'' H'' ∧ Ex S1 S'' ∧ Sl S'' σ'' ρi ∧ Mu S'' H'' H0 σ'' μi, fun σ'' H'' z => ⟨xs.length - (i + 1), by omega, rfl, z.1, z.2⟩, fun x H'' y => ?_⟩
    obtain ⟨S3, d, n3, hd, ad⟩ := w.yld i x S' H' H'' (by rw [lm]; exact hl) e' n'.ok y
    have hx : xs[i]? = some xs[i] := List.getElem?_eq_getElem hl
    rw [List.getElem?_map, hx] at hd
    cases hd
    obtain ⟨ρ', hg, hv, hb⟩ := hs i _ ρi μi hx hI
    refine hg x σ' S3 H'' ad (s'.mono n3.ex) n3.ok _ fun σ2 s2 l2 ag => ?_
    have m2 := (m'.step k0 n3).agree (fun j hj => not_in (hv j hj)) ag
    refine hb S0 H0 S1 S3 H'' σ2 k0 (n'.trans n3) (e'.trans n3.ex) s2 m2 _ fun o ho => ?_
    obtain ⟨ρ'', μ'', ho, hI2⟩ := ho
    have beh : Beh Γ S0 H0 S1 ρ'' μ'' fun σ'' H'' => i + 1 ≤ xs.length ∧ ∃ S'' ρi μi, I (i + 1) ρi μi ∧ Nx Γ S0 H0 S'' H'' ∧ Ex S1 S'' ∧ Sl S'' σ'' ρi ∧ Mu S'' H'' H0 σ'' μi := fun σ4 S4 H4 n4 f4 s4 m4 => ⟨hl, S4, _, _, hI2, n4, f4, s4.fgt vs, m4⟩
    rcases ho with rfl | rfl
    · exact beh
    · exact beh
  · have ei : i = xs.length := by omega
    subst ei
    exact .inl ⟨by rw [← lm]; exact w.stop S' H' e' n'.ok, q _ (hO _ _ hI) σ' S' H' n' (f.trans (n1.ex.trans e')) s' m'⟩
end
/-! ### promises -/
def spP (Γ : Gam) (R : List D → (D → Prop) → Prop) : Sp := fun vs H Q _ => ∃ (as : List D) (P : D → Prop) (S : Hp), Ok Γ S H ∧ AtAll S vs as ∧ R as P ∧ ∀ v S2 H2 d, P d → Nx Γ S H S2 H2 → At S2 v d → Q v H2
def spNP (Γ : Gam) (R : List D → (D → Prop) → Prop) : Sp := fun vs H Q _ => ∃ (as : List D) (P : D → Prop) (S : Hp), Ok Γ S H ∧ AtAll S vs as ∧ R as P ∧ ∀ p S2 H2 o d, P d → Nx Γ S H S2 H2 → H p = none → S2 p = none → H2 p = some o → AtO S2 o d → Q (.ref p) H2
section
variable {Γ : Gam} {ρ : Rho} {R : List D → (D → Prop) → Prop} {P : D → Prop} {E : XK} {t : TA} {as : List D}
theorem evp_call {PL : List D → Prop} (ha : AvP Γ t ρ PL) (hr : ∀ as, PL as → ∃ P1, R as P1 ∧ ∀ d, P1 d → P d) : EvP Γ (tCall (spP Γ R) [] E t) ρ P := fun σ S H s o Q q => ha σ S H s o _ fun vs S1 H1 as pa n h1 => by
  obtain ⟨P1, r, hp⟩ := hr as pa
  exact ⟨as, P1, S1, n.ok, by rw [List.append_nil]; exact h1, r, fun v S2 H2 d hd m a => q v S2 H2 d (hp d hd) (n.trans m) a⟩
theorem evp_callD (ha : AvD Γ t ρ as) (hr : R as P) : EvP Γ (tCall (spP Γ R) [] E t) ρ P := evp_call (PL := fun a => a = as) (ha.p rfl) fun a e => by subst e; exact ⟨P, hr, fun _ h => h⟩
theorem enp_call {PL : List D → Prop} (ha : AvP Γ t ρ PL) (hr : ∀ as, PL as → ∃ P1, R as P1 ∧ ∀ d, P1 d → P d) : EnP Γ (tCall (spNP Γ R) [] E t) ρ P := fun σ S H s o Q q => ha σ S H s o _ fun vs S1 H1 as pa n h1 => by
  obtain ⟨P1, r, hp⟩ := hr as pa
  exact ⟨as, P1, S1, n.ok, by rw [List.append_nil]; exact h1, r, fun p S2 H2 o d hd m h0 hs ho a => q p S2 H2 o d (hp d hd) (n.trans m) (live_of n h0) hs ho a⟩
theorem enp_callD (ha : AvD Γ t ρ as) (hr : R as P) : EnP Γ (tCall (spNP Γ R) [] E t) ρ P := enp_call (PL := fun a => a = as) (ha.p rfl) fun a e => by subst e; exact ⟨P, hr, fun _ h => h⟩
end
/-- a body as data: the promise -/
theorem fn_okP {P : Program} {w : World} {K : PySem.W.Frag} {mg : Str → Option Value} {base : Heap} {x qual : Str} {N ps : List Str} {k : Nat} {st : Stmt} {f : Addr} {fd : FuncData} {Γ : Gam} {R : List D → (D → Prop) → Prop} (F : FnP K x qual st f fd) (S : FnScope N ps (defScope st))
    (hl : ∀ as d, R as d → as.length = ps.length)
    (hb : ∀ (cdv : Value) (A : Around) (outer : List Env) (s : Shared) (H : Hp) (E : XK), Room k (A.deeper (envOfC qual (defScope st) s.heap.objs.size f cdv)) → ∃ t, PSs (cxOf CX0 P w K mg base N qual (defScope st) f cdv A outer s H E).nox (defBody st) t ∧
      ∀ as Pd, R as Pd → SvP Γ t (as.map some ++ List.replicate (N.length - as.length) none) [] (fun o => ∃ d, Pd d ∧ o = .rt d)) : FnOk P w K mg base CX0 (k + 1) f fd ps (spP Γ R) := by
  refine F.ok S (fun vs H Q E h => ?_) fun cdv A outer s H vs Q E hr h => ?_
  · obtain ⟨as, d, S', _, al, r, _⟩ := h
    rw [al.length]; exact hl as d r
  · obtain ⟨t, ht, hv⟩ := hb cdv A outer s H E hr
    obtain ⟨as, Pd, S', k', al, r, q⟩ := h
    refine ⟨t, ht.nox, ?_⟩
    have e : L2.start N vs = vs.map some ++ List.replicate (N.length - as.length) none := by unfold L2.start; rw [al.length]
    rw [e]
    refine hv as Pd r S' H S' S' H _ k' (.refl k') (Ex.refl _) (sl_start al) .nil _ fun o ho => ?_
    obtain ⟨d, hd, rfl⟩ := ho
    exact fun v S2 H2 n a => q v S2 H2 d hd n a
theorem fn_okNP {P : Program} {w : World} {K : PySem.W.Frag} {mg : Str → Option Value} {base : Heap} {x qual : Str} {N ps : List Str} {k : Nat} {st : Stmt} {f : Addr} {fd : FuncData} {Γ : Gam} {R : List D → (D → Prop) → Prop} (F : FnP K x qual st f fd) (S : FnScope N ps (defScope st))
    (hl : ∀ as d, R as d → as.length = ps.length)
    (hb : ∀ (cdv : Value) (A : Around) (outer : List Env) (s : Shared) (H : Hp) (E : XK), Room k (A.deeper (envOfC qual (defScope st) s.heap.objs.size f cdv)) → ∃ t, PSs (cxOf CX0 P w K mg base N qual (defScope st) f cdv A outer s H E).nox (defBody st) t ∧
      ∀ as Pd, R as Pd → SvP Γ t (as.map some ++ List.replicate (N.length - as.length) none) [] (fun o => ∃ d, Pd d ∧ o = .rn d)) : FnOk P w K mg base CX0 (k + 1) f fd ps (spNP Γ R) := by
  refine F.ok S (fun vs H Q E h => ?_) fun cdv A outer s H vs Q E hr h => ?_
  · obtain ⟨as, d, S', _, al, r, _⟩ := h
    rw [al.length]; exact hl as d r
  · obtain ⟨t, ht, hv⟩ := hb cdv A outer s H E hr
    obtain ⟨as, Pd, S', k', al, r, q⟩ := h
    refine ⟨t, ht.nox, ?_⟩
    have e : L2.start N vs = vs.map some ++ List.replicate (N.length - as.length) none := by unfold L2.start; rw [al.length]
    rw [e]
    refine hv as Pd r S' H S' S' H _ k' (.refl k') (Ex.refl _) (sl_start al) .nil _ fun o ho => ?_
    obtain ⟨d, hd, rfl⟩ := ho
    exact fun p S2 H2 o n h0 hs ho a => q p S2 H2 o d hd n h0 hs ho a
end CW
/-! W21 -/
/-! W21: the law's source of draws. -/
namespace CW
open PySem PySem.Spec PyProof.Rows L2 LamX
def srcKv (c : Addr) (l m t : Int) : List (Key × V) := [(Sum.inr ("cells" : Str), .ref c), (Sum.inr ("left" : Str), .int l), (Sum.inr ("mixed" : Str), .int m), (Sum.inr ("turn" : Str), .int t)]
structure SrcAt (s c : Addr) (H : Hp) (xs : List Int) (l m t : Int) : Prop where
  d : H s = some (.dK (srcKv c l m t))
  c : H c = some (.lst (xs.map V.int))
def Src (s c : Addr) (H : Hp) : Prop := ∃ xs l m t, SrcAt s c H xs l m t
/-- effects: the tables, the source and its cells -/
def ΓS (T : List (Addr × Str)) (s c : Addr) : Gam where
  B := fun a => (∃ q, (a, q) ∈ T) ∨ a = s ∨ a = c
  J := fun H => Tabs T H ∧ Src s c H
  st := fun H H2 k j => by
    obtain ⟨jt, xs, l, m, t, h⟩ := j
    refine ⟨fun p hp => ?_, xs, l, m, t, k _ _ h.d (.inr (.inr (.inl rfl))), k _ _ h.c (.inr (.inr (.inr rfl)))⟩
    obtain ⟨ps, h1, h2, h3⟩ := jt p hp
    refine ⟨ps, k _ _ h1 (.inr (.inl ⟨p.2, hp⟩)), h2, fun pos cv e => ?_⟩
    obtain ⟨c, e1, e2⟩ := h3 pos cv e
    exact ⟨c, e1, k _ _ e2 (.inl trivial)⟩
  lv := fun H b j hb => by
    obtain ⟨jt, xs, l, m, t, h⟩ := j
    rcases hb with ⟨q, hq⟩ | rfl | rfl
    · obtain ⟨ps, h1, _⟩ := jt _ hq
      rw [show H b = some (.tbl ps) from h1]
      exact fun z => nomatch z
    · rw [h.d]; exact fun z => nomatch z
    · rw [h.c]; exact fun z => nomatch z
section
variable {T : List (Addr × Str)} {s c : Addr} {S H H2 : Hp}
theorem src_ne (h : Src s c H) : s ≠ c := fun e => by
  obtain ⟨xs, l, m, t, h⟩ := h
  have := h.d
  rw [e, h.c] at this
  cases this
theorem tab_ne {P : Addr} {q : Str} (jt : Tabs T H) (h : Src s c H) (hP : (P, q) ∈ T) : P ≠ s ∧ P ≠ c := by
  obtain ⟨xs, l, m, t, h⟩ := h
  obtain ⟨ps, h1, _⟩ := jt _ hP
  have h1 : H P = some (.tbl ps) := h1
  exact ⟨fun e => (by rw [e, h.d] at h1; cases h1), fun e => (by rw [e, h.c] at h1; cases h1)⟩
theorem code_ne {b : Addr} {q : Str} (h : Src s c H) (hb : H b = some (CodeO b q)) : b ≠ s ∧ b ≠ c := by
  obtain ⟨xs, l, m, t, h⟩ := h
  unfold CodeO at hb
  exact ⟨fun e => (by rw [e, h.d] at hb; cases hb), fun e => (by rw [e, h.c] at hb; cases hb)⟩
theorem lamOkS {P : Addr} {q : Str} (h : (P, q) ∈ T) : LamOk (ΓS T s c) T P where
  tab := fun H j => j.1
  made := fun S H H2 k e t => by
    have hne := tab_ne k.j.1 k.j.2 h
    have ns : ∀ a o, S a = some o → a ≠ P := fun a o z y => by
      have := k.off a (y ▸ .inl ⟨q, h⟩)
      rw [this] at z; cases z
    obtain ⟨xs, l, m, t2, hs⟩ := k.j.2
    exact ⟨Ex.refl S, ⟨fun a o z => e a o (ns a o z) (k.ex a o z), ⟨t, xs, l, m, t2, e _ _ (Ne.symm hne.1) hs.d, e _ _ (Ne.symm hne.2) hs.c⟩, k.off⟩, fun a o b z => e a o (fun y => b (y ▸ .inl ⟨q, h⟩)) z, fun _ _ => rfl⟩
  code := fun H b q2 j e hb => by
    rcases hb with ⟨q3, hb⟩ | z
    · obtain ⟨ps, h1, _⟩ := j.1 _ hb
      rw [show H b = some (.tbl ps) from h1] at e
      exact codeO_ne ps (Option.some.inj e).symm
    · have := code_ne j.2 e
      rcases z with z | z
      · exact this.1 z
      · exact this.2 z
/-- the source alone is changed -/
theorem nx_src (k : Ok (ΓS T s c) S H) (e : ∀ a, a ≠ s → a ≠ c → H2 a = H a) (h : Src s c H2) : Nx (ΓS T s c) S H S H2 := by
  have off : ∀ {a o}, S a = some o → a ≠ s ∧ a ≠ c := fun {a o} z => ⟨fun y => (by rw [k.off a (.inr (.inl y))] at z; cases z), fun y => (by rw [k.off a (.inr (.inr y))] at z; cases z)⟩
  refine ⟨Ex.refl S, ⟨fun a o z => ?_, ⟨fun p hp => ?_, h⟩, k.off⟩, fun a o b z => ?_, fun _ _ => rfl⟩
  · rw [e a (off z).1 (off z).2]; exact k.ex a o z
  · obtain ⟨ps, h1, h2, h3⟩ := k.j.1 p hp
    have hne := tab_ne (P := p.1) (q := p.2) k.j.1 k.j.2 hp
    refine ⟨ps, by rw [e _ hne.1 hne.2]; exact h1, h2, fun pos cv hc => ?_⟩
    obtain ⟨b, e1, e2⟩ := h3 pos cv hc
    have hb := code_ne k.j.2 e2
    exact ⟨b, e1, by rw [e _ hb.1 hb.2]; exact e2⟩
  · rw [e a (fun y => b (.inr (.inl y))) (fun y => b (.inr (.inr y)))]; exact z
end
def isI (d : D) : Prop := ∃ i, d = .int i
section
variable {T : List (Addr × Str)} {s c : Addr} {ρ : Rho} {μ : Mus} {i : Nat} {O : Out → Prop} {tv : TE} {K : PySem.W.Frag}
theorem at_opq {S : Hp} {v : V} {a : Addr} (h : At S v (.opq a)) : v = .ref a := by cases h; rfl
/-- src["left"] and its like -/
theorem evp_get {x : Str} (hi : ρ[i]? = some (some (.opq s))) (hx : x = "left" ∨ x = "mixed" ∨ x = "turn") : EvP (ΓS T s c) (tDGet (tVar i) (tC (.str x))) ρ isI := fun σ S H sl k Q q => by
  obtain ⟨v, h1, h2⟩ := sl.at_ i _ hi
  cases at_opq h2
  obtain ⟨_, xs, l, m, t, h⟩ := k.j
  refine ⟨_, h1, ?_⟩
  rcases hx with rfl | rfl | rfl
  · exact ⟨s, .int l, rfl, DGet.k (k := Sum.inr _) h.d, q _ S H _ ⟨l, rfl⟩ (.refl k) (.int l)⟩
  · exact ⟨s, .int m, rfl, DGet.k (k := Sum.inr _) h.d, q _ S H _ ⟨m, rfl⟩ (.refl k) (.int m)⟩
  · exact ⟨s, .int t, rfl, DGet.k (k := Sum.inr _) h.d, q _ S H _ ⟨t, rfl⟩ (.refl k) (.int t)⟩
theorem svp_put {x : Str} (hi : ρ[i]? = some (some (.opq s))) (hx : x = "left" ∨ x = "turn") (hv : EvP (ΓS T s c) tv ρ isI) (hO : O (.nx ρ [])) : SvP (ΓS T s c) (sDPut (tVar i) (tC (.str x)) tv) ρ [] O := fun S0 H0 F S H σ k0 n f sl m Dn q =>
  hv σ S H sl n.ok _ fun v S2 H2 d hd n2 a => by
    obtain ⟨z, rfl⟩ := hd
    cases a
    obtain ⟨v, h1, h2⟩ := sl.at_ i _ hi
    cases at_opq h2
    obtain ⟨_, xs, l, mm, t, h⟩ := n2.ok.j
    have ne := src_ne n2.ok.j.2
    refine ⟨_, h1, s, _, rfl, DPut.k (k := Sum.inr x) h.d (by show 4 < sizeLine; decide), ?_⟩
    have n3 : Nx (ΓS T s c) S2 H2 S2 (upd H2 s (.dK (putK (srcKv c l mm t) (Sum.inr x) (.int z)))) := nx_src n2.ok (fun a h1 h2 => by rw [upd_ne h1]) (by
      rcases hx with rfl | rfl
      · exact ⟨xs, z, mm, t, by rw [upd_same]; rfl, by rw [upd_ne (Ne.symm ne)]; exact h.c⟩
      · exact ⟨xs, l, mm, z, by rw [upd_same]; rfl, by rw [upd_ne (Ne.symm ne)]; exact h.c⟩)
    exact q _ hO σ S2 _ ((n.trans n2).trans n3) (f.trans n2.ex) (sl.mono n2.ex) .nil
end
end CW
/-! P16 -/
/-! P16: pick, of. -/
namespace CW
open PySem PySem.Spec PyProof.Rows L2 LamX
def below (n : Nat) (d : D) : Prop := ∃ k : Nat, k < n ∧ d = nI k
def rPick (s : Addr) (as : List D) (P : D → Prop) : Prop := ∃ n : Nat, 1 ≤ n ∧ n ≤ 1000 ∧ as = [.opq s, nI n] ∧ P = below n
section
variable {T : List (Addr × Str)} {s c : Addr} {ρ : Rho} {K : PySem.W.Frag}
theorem rd_mul {Γ : Gam} {i j : Int} (h : CMul i j) : RD2 Γ (rI CMul fun i j => .int (i * j)) (.int i) (.int j) (.int (i * j)) := rd_I h fun _ => .int _
theorem rd_modN {Γ : Gam} {i j : Int} (h : j ≠ 0) : RD2 Γ (rI (fun _ j => j ≠ 0) fun i j => .int (i.fmod j)) (.int i) (.int j) (.int (i.fmod j)) := rd_I h fun _ => .int _
theorem rd_fdivN {Γ : Gam} {i j : Int} (h : CDivN i j) : RD2 Γ (rI CDivN fun i j => .int (i.fdiv j)) (.int i) (.int j) (.int (i.fdiv j)) := rd_I h fun _ => .int _
theorem ra_int1 {Γ : Gam} {i : Int} : RDA Γ (fun xs H Q => (∃ i, xs = [V.int i] ∧ Q (.int i) H) ∨ ∃ k, xs = [V.bl k] ∧ Q (.int (if k then 1 else 0)) H) [.int i] (.int i) := fun us S H a k Q q => by
  cases a with
  | cons h t => cases t; cases h; exact .inl ⟨i, rfl, q _ S H (.refl k) (.int i)⟩
theorem ra_max2 {Γ : Gam} {i j : Int} : RDA Γ (fun xs H Q => ∃ i j, xs = [V.int i, V.int j] ∧ Q (.int (if j > i then j else i)) H) [.int i, .int j] (.int (if j > i then j else i)) := fun us S H a k Q q => by
  cases a with
  | cons h t =>
    cases t with
    | cons h2 t => cases t; cases h; cases h2; exact ⟨i, j, rfl, q _ S H (.refl k) (.int _)⟩
/-- between 0 and n -/
def inB (n : Int) (d : D) : Prop := ∃ i, d = .int i ∧ 0 ≤ i ∧ i < n
theorem fmod_in {i n : Int} (h : 0 < n) : 0 ≤ i.fmod n ∧ i.fmod n < n := ⟨Int.fmod_nonneg_of_pos i h, Int.fmod_lt_of_pos i h⟩
theorem below_of {n : Nat} {d : D} (h : inB n d) : below n d := by
  obtain ⟨i, rfl, h0, h1⟩ := h
  exact ⟨i.toNat, by omega, by show D.int i = D.int (i.toNat : Int); rw [Int.toNat_of_nonneg h0]⟩
theorem evp_add {Γ : Gam} {ta tb : TE} (ha : EvP Γ ta ρ isI) (hb : EvP Γ tb ρ isI) : EvP Γ (tOp (rI0 fun i j => .int (i + j)) ta tb) ρ isI := evp_op ha hb fun a b ⟨i, ea⟩ ⟨j, eb⟩ => by subst ea eb; exact ⟨_, ⟨_, rfl⟩, rd_add⟩
theorem evp_mulR {Γ : Gam} {ta tb : TE} {j : Int} (hj : -(2 ^ 64) < j ∧ j < 2 ^ 64) (ha : EvP Γ ta ρ isI) (hb : EvD Γ tb ρ (.int j)) : EvP Γ (tOp (rI CMul fun i j => .int (i * j)) ta tb) ρ isI := evp_op (P2 := fun d => d = .int j) ha (hb.p rfl) fun a b ⟨i, ea⟩ eb => by subst ea eb; exact ⟨_, ⟨_, rfl⟩, rd_mul (.inr hj)⟩
theorem evp_modR {Γ : Gam} {ta tb : TE} {j : Int} (hj : 0 < j) (ha : EvP Γ ta ρ isI) (hb : EvD Γ tb ρ (.int j)) : EvP Γ (tOp (rI (fun _ j => j ≠ 0) fun i j => .int (i.fmod j)) ta tb) ρ (inB j) := evp_op (P2 := fun d => d = .int j) ha (hb.p rfl) fun a b ⟨i, ea⟩ eb => by
  subst ea eb; exact ⟨_, ⟨_, rfl, fmod_in hj⟩, rd_modN (by omega)⟩
theorem evp_int1 {Γ : Gam} {ta : TE} (ha : EvP Γ ta ρ isI) : EvP Γ (tCB (fun xs H Q => (∃ i, xs = [V.int i] ∧ Q (.int i) H) ∨ ∃ k, xs = [V.bl k] ∧ Q (.int (if k then 1 else 0)) H) (tCons ta tNil)) ρ isI :=
  evp_cb (avp_cons ha avp_nil) fun ds ⟨d, r, e, ⟨i, ei⟩, er⟩ => by subst e er ei; exact ⟨_, ⟨i, rfl⟩, ra_int1⟩
theorem inB_isI {n : Int} {d : D} (h : inB n d) : isI d := let ⟨i, e, _⟩ := h; ⟨i, e⟩
theorem pick_while {n : Nat} (h0 : ρ[0]? = some (some (.opq s))) (h1 : ρ[1]? = some (some (nI n))) : SvP (ΓS T s c) (tWhile (tAnd (tTest (tOp (rI0 fun i j => .bl (decide (j < i))) (tVar 1) (tC (.int 1)))) (tAnd (tTest (tOp (rI0 fun i j => .bl (decide (i < j))) (tDGet (tVar 0) (tC (.str "left"))) (tC (.int 2))))
    (tTest (tOp (rI0 fun i j => .bl (decide (j < i))) (tCB (rLenS K) (tCons (tDGet (tVar 0) (tC (.str "cells"))) tNil)) (tC (.int 0))))))
    (sDPut (tVar 0) (tC (.str "left")) (tBM0 K "list" rPop (tDGet (tVar 0) (tC (.str "cells")))))) ρ [] (fun o => o = .nx ρ []) := fun S0 H0 F S H σ k0 nn f sl m Dn q => by
  obtain ⟨v0, g0, a0⟩ := sl.at_ 0 _ h0
  cases at_opq a0
  obtain ⟨v1, g1, a1⟩ := sl.at_ 1 _ h1
  cases a1
  obtain ⟨_, xs0, l0, m0, t0, hs0⟩ := nn.ok.j
  have ne := src_ne nn.ok.j.2
  refine ⟨fun mm σ' H' => σ' = σ ∧ (∀ a, a ≠ s → a ≠ c → H' a = H a) ∧ ∃ xs l m2 t, mm = xs.length ∧ SrcAt s c H' xs l m2 t, ⟨_, rfl, fun _ _ _ => rfl, xs0, l0, m0, t0, rfl, hs0⟩, ?_⟩
  rintro mm σ' H' ⟨rfl, e, xs, l, m2, t, rfl, h⟩
  have done : Dn.nx σ' H' := q _ rfl σ' S H' (nn.trans (nx_src nn.ok e ⟨xs, l, m2, t, h⟩)) f sl .nil
  refine ⟨_, g1, _, _, rfl, rfl, _, rfl, ?_⟩
  by_cases c1 : (1 : Int) < (n : Int)
  · rw [decide_eq_true c1]; dsimp only; rw [if_pos rfl]
    refine ⟨_, g0, s, .int l, rfl, DGet.k (k := Sum.inr ("left" : Str)) h.d, _, _, rfl, rfl, _, rfl, ?_⟩
    by_cases c2 : l < 2
    · rw [decide_eq_true c2]; dsimp only; rw [if_pos rfl]
      refine ⟨_, g0, s, .ref c, rfl, DGet.k (k := Sum.inr ("cells" : Str)) h.d, c, _, rfl, .inl (.of h.c), _, _, rfl, rfl, _, rfl, ?_⟩
      by_cases c3 : (0 : Int) < ((xs.map V.int).length : Int)
      · rw [decide_eq_true c3]; dsimp only; rw [if_pos rfl]
        have lx : 0 < xs.length := by rw [List.length_map] at c3; omega
        refine ⟨fun σ2 H2 => σ2 = σ' ∧ (∀ a, a ≠ s → a ≠ c → H2 a = H a) ∧ ∃ ys l m2 t, ys.length < xs.length ∧ SrcAt s c H2 ys l m2 t, fun σ2 H2 ⟨z1, z2, ys, l, m2, t, z3, z4⟩ => ⟨ys.length, z3, z1, z2, ys, l, m2, t, rfl, z4⟩, ?_⟩
        have gl : (xs.map V.int)[(xs.map V.int).length - 1]? = some (.int (xs.getLast (List.ne_nil_of_length_pos lx))) := by
          rw [List.length_map, List.getElem?_map, List.getElem?_eq_getElem (by omega), List.getLast_eq_getElem]; rfl
        refine ⟨_, g0, s, .ref c, rfl, DGet.k (k := Sum.inr ("cells" : Str)) h.d, .inl ⟨rfl, _, .of h.c⟩, c, _, _, rfl, rfl, h.c, gl, _, g0, s, _, rfl, DPut.k (k := Sum.inr ("left" : Str)) (by rw [upd_ne ne]; exact h.d) (by show 4 < sizeLine; decide), ?_⟩
        refine ⟨rfl, fun a h1 h2 => by rw [upd_ne h1, upd_ne h2]; exact e a h1 h2, xs.dropLast, _, m2, t, by rw [List.length_dropLast]; omega, by rw [upd_same]; rfl, ?_⟩
        rw [upd_ne (Ne.symm ne), upd_same, ← List.map_dropLast]
      · rw [decide_eq_false c3]; dsimp only; rw [if_neg Bool.false_ne_true]
        exact done
    · rw [decide_eq_false c2]; dsimp only; rw [if_neg Bool.false_ne_true, if_neg Bool.false_ne_true]
      exact done
  · rw [decide_eq_false c1]; dsimp only; rw [if_neg Bool.false_ne_true, if_neg Bool.false_ne_true]
    exact done
end
section
variable {P : Program} {w : World} {K : PySem.W.Frag} {mg : Str → Option Value} {base : Heap} {C : Addr} {f : Addr} {fd : FuncData} {T : List (Addr × Str)} {s c : Addr}
theorem sc__law_pick : FnScope ["_law_source_here", "_law_many", "_law_left", "_law_mixed_here"] ["_law_source_here", "_law_many"] (defScope (topS 45)) := ⟨rfl, rfl, rfl, by decide +kernel, rfl, by decide +kernel, by decide +kernel⟩
theorem ok__law_pick (Tk : Kx K mg C) (F : FnP K "_law_pick" "_law_pick" (topS 45) f fd) : FnOk P w K mg base CX0 1 f fd ["_law_source_here", "_law_many"] (spP (ΓS T s c) (rPick s)) := by
  have nd := (sc__law_pick).nd
  have B := Tk.b
  refine fn_okP F sc__law_pick (fun as d ⟨_, _, _, e, _⟩ => by rw [e]; rfl) fun cdv A outer s' H E hr => ?_
  have hu := hu_of hr
  refine ⟨_, (pss_cons (ps_while PassesOwn.never (PW.pt (pw_and (pt_cmpR op_gt (pv 1) pe_int (nomark _)) (pw_and (pt_cmpR op_lt (pe_dget hu (pv 0) pe_str (fun _ _ => rfl)) pe_int (nomark _)) (pw_and1 (pt_cmpR op_gt (w_len K B (pa_cons (pe_dget hu (pv 0) pe_str (fun _ _ => rfl)) pa_nil)) pe_int (nomark _)))))) (pss_one (ps_dput hu (pv 0) pe_str (pe_bm0 PySem.F.plainAttrs_list PySem.F.slot_list_pop PySem.F.type_list_pop mt_pop (pe_dget hu (pv 0) pe_str (fun _ _ => rfl))) rfl)))
    (pss_cons (ps_set (i := 2) nd rfl (Or.inl rfl) (pe_dget hu (pv 0) pe_str (fun _ _ => rfl)))
    (pss_cons (ps_if (PW.pt (pw_or (pt_cmpR op_lt (pv 1) pe_int (nomark _)) (pw_or1 (pt_cmpR op_gt (pv 2) pe_int (nomark _))))) (pss_cons (ps_dput hu (pv 0) pe_str (pe_op op_fdivN (pv 2) (pe_callB (call_max2 rfl) (by rfl) B.max (by decide +kernel) (pa_cons pe_int (pa_cons (pv 1) pa_nil)))) rfl)
    (pss_one (ps_ret (pe_op op_modN (pe_callTy call_int1 (by rfl) B.int (by decide +kernel) (pa_cons (pv 2) pa_nil)) (pe_callB (call_max2 rfl) (by rfl) B.max (by decide +kernel) (pa_cons pe_int (pa_cons (pv 1) pa_nil))))))) pss_nil)
    (pss_cons (ps_dput hu (pv 0) pe_str (pe_op op_add (pe_dget hu (pv 0) pe_str (fun _ _ => rfl)) pe_int) rfl)
    (pss_cons (ps_set (i := 3) nd rfl (Or.inl rfl) (pe_op op_modN (pe_callTy call_int1 (by rfl) B.int (by decide +kernel) (pa_cons (pe_op op_add (pe_dget hu (pv 0) pe_str (fun _ _ => rfl)) (pe_op op_mul (pe_dget hu (pv 0) pe_str (fun _ _ => rfl)) pe_int)) pa_nil)) pe_int))
    (pss_cons (ps_set (i := 3) nd rfl (Or.inl rfl) (pe_op op_modN (pe_callTy call_int1 (by rfl) B.int (by decide +kernel) (pa_cons (pe_op op_add (pe_op op_mul (pv 3) (pv 3)) (pe_op op_mul (pe_dget hu (pv 0) pe_str (fun _ _ => rfl)) pe_int)) pa_nil)) pe_int))
    (pss_one (ps_ret (pe_op op_modN (pe_callTy call_int1 (by rfl) B.int (by decide +kernel) (pa_cons (pe_op op_fdivN (pv 3) pe_int) pa_nil)) (pv 1)))))))))), ?_⟩
  rintro as Pd ⟨n, hn1, hn2, rfl, rfl⟩
  refine svp_seq (pick_while (n := n) rfl rfl) fun o ho => ?_
  subst ho
  refine svp_seq (svp_asg (evp_get rfl (.inl rfl))) fun o ho => ?_
  obtain ⟨d, ⟨l, rfl⟩, rfl⟩ := ho
  have emax : (if (n : Int) > 1 then (n : Int) else 1) = (n : Int) := by split <;> omega
  have vmax : ∀ {ρ : Rho}, ρ[1]? = some (some (nI n)) → EvD (ΓS T s c) (tCB (fun xs H Q => ∃ i j, xs = [V.int i, V.int j] ∧ Q (.int (if j > i then j else i)) H) (tCons (tC (.int 1)) (tCons (tVar 1) tNil))) ρ (nI n) := fun h => EvD.is (ev_cb (av_cons ev_int (av_cons (ev_var h) av_nil)) ra_max2) (congrArg D.int emax)
  refine svp_seq (O1 := fun o => (∃ d, below n d ∧ o = .rt d) ∨ o = .nx [some (.opq s), some (nI n), some (.int l), none] []) (svp_if (B := fun _ => True) ((tv_or (tv_test (ev_op (ev_var rfl) ev_int rd_lt)) fun _ => tv_test (ev_op (ev_var rfl) ev_int rd_gt)).p trivial) (fun _ => ?_) fun _ => (sv_next).p (.inr rfl)) fun o ho => ?_
  · refine svp_seq (svp_put (O := fun o => o = .nx _ []) rfl (.inl rfl) (EvD.p (ev_op (ev_var rfl) (vmax rfl) (rd_fdivN ⟨by omega, by omega⟩)) ⟨_, rfl⟩) rfl) fun o ho => ?_
    subst ho
    exact svp_ret (P := below n) (EvP.imp (evp_modR (by omega) (evp_int1 (EvD.p (ev_var rfl) ⟨_, rfl⟩)) (vmax rfl)) fun d => below_of) fun d hd => .inl ⟨d, hd, rfl⟩
  · rcases ho with ⟨d, hd, rfl⟩ | rfl
    · exact ⟨d, hd, rfl⟩
    refine svp_seq (svp_put (O := fun o => o = .nx _ []) rfl (.inr rfl) (evp_add (evp_get rfl (.inr (.inr rfl))) (EvD.p ev_int ⟨_, rfl⟩)) rfl) fun o ho => ?_
    subst ho
    refine svp_seq (svp_asg (evp_modR (j := 998244353) (by decide) (evp_int1 (evp_add (evp_get rfl (.inr (.inl rfl))) (evp_mulR (by decide) (evp_get rfl (.inr (.inr rfl))) ev_int))) ev_int)) fun o ho => ?_
    obtain ⟨d, ⟨m, rfl, m0, m1⟩, rfl⟩ := ho
    refine svp_seq (svp_asg (evp_modR (j := 2147483647) (by decide) (evp_int1 (evp_add (EvD.p (ev_op (ev_var rfl) (ev_var rfl) (rd_mul (.inl ⟨by omega, by omega⟩))) ⟨_, rfl⟩) (evp_mulR (by decide) (evp_get rfl (.inr (.inr rfl))) ev_int))) ev_int)) fun o ho => ?_
    obtain ⟨d, ⟨m2, rfl, m3, m4⟩, rfl⟩ := ho
    exact svp_ret (P := below n) (EvP.imp (evp_modR (by omega) (evp_int1 (EvD.p (ev_op (ev_var rfl) ev_int (rd_fdivN ⟨by decide, by decide⟩)) ⟨_, rfl⟩)) (ev_var rfl)) fun d => below_of) fun d hd => ⟨d, hd, rfl⟩
end
end CW
/-! P17 -/
/-! P17: of, mixed. -/
namespace CW
open PySem PySem.Spec PyProof.Rows L2 LamX
def rOf (s : Addr) (as : List D) (P : D → Prop) : Prop := ∃ ds : List D, ds ≠ [] ∧ ds.length ≤ 1000 ∧ as = [.opq s, .lst ds] ∧ P = fun d => d ∈ ds
def rMixed (s : Addr) (as : List D) (P : D → Prop) : Prop := ∃ ds : List D, ds.length ≤ 1000 ∧ as = [.opq s, .lst ds] ∧ P = fun d => ∃ es : List D, es.Perm ds ∧ d = .lst es
theorem AtAll.erase {S : Hp} : ∀ {vs : List V} {ds : List D} (k : Nat), AtAll S vs ds → AtAll S (vs.eraseIdx k) (ds.eraseIdx k)
  | _, _, 0, .nil => .nil
  | _, _, _ + 1, .nil => .nil
  | _, _, 0, .cons _ t => t
  | _, _, k + 1, .cons h t => .cons h (AtAll.erase k t)
theorem perm_eraseIdx {α : Type} : ∀ {l : List α} {k : Nat} (h : k < l.length), (l[k] :: l.eraseIdx k).Perm l
  | [], _, h => absurd h (Nat.not_lt_zero _)
  | a :: l, 0, _ => List.Perm.refl _
  | a :: l, k + 1, h => (List.Perm.swap _ _ _).trans ((perm_eraseIdx (Nat.lt_of_succ_lt_succ h)).cons a)
section
variable {X : Cx} {o e : Expr} {es : List Expr} {to : TE} {t : TA} {name : Str} {apos cpos : Pos} {Ty id : String} {r : V → List V → Hp → VK → Prop}
theorem w_bm (K : PySem.W.Frag) (pa : PlainAttrs Ty) (slot : Slot Ty name id) (hty : typeOf (.builtin id) = pure (.type "method_descriptor")) (hm : MtR X id r) (ho : PE X o to) (ha : PA X (e :: es) t) (hK : X.K = K := by rfl) (hbase : attributeBase o name X.env (eval o X.env) = eval o X.env := by rfl)
    (hfew : ((backTo cpos (starEach (e :: es) X.env)).all (fun x => !x.1) && (backToKw cpos (keywordEach [] X.env)).all (fun x => x.1.isSome) && decide ((e :: es).length + ([] : List Keyword).length + (if ([] : List Keyword).isEmpty then 0 else 1) < 30)) = true := by rfl) (hline : (apos.endLine == cpos.line) = true := by rfl) (hs : starEach (e :: es) X.env = (false, eval e X.env) :: starEach es X.env := by rfl) (hplain : (backTo cpos (starEach es X.env)).any (·.1) = false := by rfl) :
    PE X (.Call (.Attribute o name apos) (e :: es) [] cpos) (tBM K Ty r to t) := hK ▸ pe_bm pa slot hty hm ho ha hbase hfew hline hs hplain
end
section
variable {P : Program} {w : World} {K : PySem.W.Frag} {mg : Str → Option Value} {base : Heap} {C : Addr} {f : Addr} {fd : FuncData} {T : List (Addr × Str)} {s c : Addr}
theorem sc__law_of : FnScope ["_law_source_here", "_law_some"] ["_law_source_here", "_law_some"] (defScope (topS 46)) := ⟨rfl, rfl, rfl, by decide +kernel, rfl, by decide +kernel, by decide +kernel⟩
theorem ok__law_of (Tk : Kx K mg C) (F : FnP K "_law_of" "_law_of" (topS 46) f fd) (G_law_pick : Has P w K mg base "_law_pick" ["_law_source_here", "_law_many"] 1 (spP (ΓS T s c) (rPick s))) : FnOk P w K mg base CX0 2 f fd ["_law_source_here", "_law_some"] (spP (ΓS T s c) (rOf s)) := by
  have nd := (sc__law_of).nd
  have B := Tk.b
  refine fn_okP F sc__law_of (fun as d ⟨_, _, _, e, _⟩ => by rw [e]; rfl) fun cdv A outer s' H E hr => ?_
  refine ⟨_, (pss_one (ps_ret (pe_ix (w_ixL K) (pv 1) (pe_h G_law_pick hr (pa_cons (pv 0) (pa_cons (w_len K B (pa_cons (pv 1) pa_nil)) pa_nil))) (fun _ _ => rfl)))), ?_⟩
  rintro as Pd ⟨ds, hne, hz, rfl, rfl⟩
  have lp := List.length_pos_iff.mpr hne
  refine svp_ret (P := fun d => d ∈ ds) (evp_op (P1 := fun d => d = .lst ds) (P2 := below ds.length) (EvD.p (ev_var rfl) rfl) (evp_callD (av_cons (ev_var rfl) (av_cons (ev_cb (av_cons (ev_var rfl) av_nil) ra_len) av_nil)) ⟨ds.length, lp, hz, rfl, rfl⟩) fun a b ea ⟨k, hk, eb⟩ => ?_) fun d hd => ⟨d, hd, rfl⟩
  subst ea eb
  exact ⟨ds[k], List.getElem_mem hk, rd_ixL rfl (List.getElem?_eq_getElem hk)⟩
theorem mixed_ret {ds : List D} (hz : ds.length ≤ 1000) : SvP (ΓS T s c) (tRet (tLc (iRng1 (tCons (tCB (rLenS K) (tCons (tVar 2) tNil)) tNil)) (gName 3) tYes (tBM K "list" rPopAt (tVar 2) (tCons (tCall (spP (ΓS T s c) (rPick s)) [] E0 (tCons (tVar 0) (tCons (tCB (rLenS K) (tCons (tVar 2) tNil)) tNil))) tNil)) [3]))
    [some (.opq s), some (.lst ds), none, none] [(2, .lst ds)] (fun o => ∃ d, (∃ es : List D, es.Perm ds ∧ d = .lst es) ∧ o = .rn d) := fun S0 H0 F S H σ k0 n f sl m Dn q => by
  obtain ⟨v0, g0, a0⟩ := sl.at_ 0 _ rfl
  cases at_opq a0
  obtain ⟨p, o, g2, hp0, hSp, hp, ao⟩ := m.at_ 2 _ List.mem_cons_self
  cases ao with
  | lst al =>
    rename_i vs
    have lv := al.length
    refine ⟨_, g2, p, vs, rfl, .inl (.of hp), vs.length, rfl, by omega, by omega, ?_⟩
    intro Dl hD
    have w : Wk (ΓS T s c) (Itr 0 ((vs.length : Int).toNat)) S ((List.range ds.length).map fun i => D.int (i : Nat)) := wk_range (n := ds.length) (lo := 0) (by rw [Int.toNat_natCast, lv]) fun i => by simp
    have hS1 := n.ok.fresh hD
    have hD0 := live_of n hD
    have hpD : p ≠ Dl := fun z => by rw [z, hD] at hp; cases hp
    refine ⟨fun i mm H' => mm = ds.length - i ∧ i ≤ ds.length ∧ ∃ (S' : Hp) (acc rest : List V) (e1 e2 : List D), Nx (ΓS T s c) S0 H0 S' H' ∧ Ex S S' ∧ S' p = none ∧ S' Dl = none ∧ H' Dl = some (.lst acc) ∧ H' p = some (.lst rest) ∧ AtAll S' acc e1 ∧ AtAll S' rest e2 ∧ (e1 ++ e2).Perm ds ∧ e1.length = i,
      ⟨ds.length, rfl, Nat.zero_le _, S, [], vs, [], ds, n.trans (.hid n.ok hD _), Ex.refl S, hSp, hS1, upd_same, by rw [upd_ne hpD]; exact hp, .nil, al, List.Perm.refl _, rfl⟩, ?_⟩
    rintro i mm H' ⟨rfl, hi, S', acc, rest, e1, e2, n2, ex2, hp2, hs2, hd2, hr2, al1, al2, pm, li⟩
    by_cases hlt : i < ds.length
    · refine .inr ⟨w.go i S' H' (by simpa using hlt) ex2 n2.ok, fun H'' => i + 1 ≤ ds.length ∧ ∃ (S' : Hp) (acc rest : List V) (e1 e2 : List D), Nx (ΓS T s c) S0 H0 S' H'' ∧ Ex S S' ∧ S' p = none ∧ S' Dl = none ∧ H'' Dl = some (.lst acc) ∧ H'' p = some (.lst rest) ∧ AtAll S' acc e1 ∧ AtAll S' rest e2 ∧ (e1 ++ e2).Perm ds ∧ e1.length = i + 1,
        fun H'' z => ⟨ds.length - (i + 1), by omega, rfl, z.1, z.2⟩, fun x H'' y => ?_⟩
      obtain ⟨S3, d, n3, hdx, ad⟩ := w.yld i x S' H' H'' (by simpa using hlt) ex2 n2.ok y
      have t2 : ((L2.wipe σ [3]).set 3 (some x))[2]? = some (some (.ref p)) := by rw [List.getElem?_set_ne (by decide), wipe_get, if_neg (by decide)]; exact g2
      have t0 : ((L2.wipe σ [3]).set 3 (some x))[0]? = some (some (.ref s)) := by rw [List.getElem?_set_ne (by decide), wipe_get, if_neg (by decide)]; exact g0
      have hp3 : H'' p = some (.lst rest) := n3.fr _ _ (k0.nb hp0) hr2
      have hd3 : H'' Dl = some (.lst acc) := n3.fr _ _ (k0.nb hD0) hd2
      have ps3 : S3 p = none := (n3.old p (by rw [hr2]; exact fun z => nomatch z)).trans hp2
      have ds3 : S3 Dl = none := (n3.old Dl (by rw [hd2]; exact fun z => nomatch z)).trans hs2
      refine ⟨by rw [wipe_agree (τ := L2.wipe σ [3]) (vs := [3]) (by simp) fun j hj => List.getElem?_set_ne fun z => hj (by rw [← z]; exact List.mem_singleton.mpr rfl), wipe_wipe], ?_⟩
      show tBM K "list" rPopAt (tVar 2) _ ((L2.wipe σ [3]).set 3 (some x)) H'' _
      have lr := al2.length
      have lpm := pm.length_eq
      rw [List.length_append] at lpm
      have hb : 1 ≤ rest.length := by omega
      refine ⟨_, t2, .inl ⟨rfl, _, .of hp3⟩, _, t0, _, t2, p, rest, rfl, .inl (.of hp3), ?_⟩
      refine ⟨[.opq s, nI rest.length], below rest.length, S3, n3.ok, .cons (.opq s) (.cons (.int _) .nil), ⟨rest.length, hb, by omega, rfl, rfl⟩, fun v S4 H4 d hd n4 a4 => ?_⟩
      obtain ⟨k, hk, rfl⟩ := hd
      cases a4
      have hp4 : H4 p = some (.lst rest) := n4.fr _ _ (k0.nb hp0) hp3
      have hd4 : H4 Dl = some (.lst acc) := n4.fr _ _ (k0.nb hD0) hd3
      have ps4 : S4 p = none := (n4.old p (by rw [hp3]; exact fun z => nomatch z)).trans ps3
      have ds4 : S4 Dl = none := (n4.old Dl (by rw [hd3]; exact fun z => nomatch z)).trans ds3
      have n24 := (n2.trans n3).trans n4
      have ex4 : Ex S S4 := ex2.trans (n3.ex.trans n4.ex)
      refine ⟨p, rest, _, k, rest[k], rfl, rfl, hp4, by omega, by omega, ?_, List.getElem?_eq_getElem hk, ?_⟩
      · unfold seqIndex?
        simp
        omega
      · have n5 := n24.mut hp0 ps4 hp4 (fun z => z) k0 (.lst (rest.eraseIdx k))
        have hd5 : upd H4 p (.lst (rest.eraseIdx k)) Dl = some (.lst acc) := by rw [upd_ne (Ne.symm hpD)]; exact hd4
        have l1 := al1.length
        have hk2 : k < e2.length := by omega
        obtain ⟨dk, hdk, adk⟩ := (al2.mono (n3.ex.trans n4.ex)).get (List.getElem?_eq_getElem hk)
        rw [List.getElem?_eq_getElem hk2] at hdk
        refine ⟨acc, hd5, szlt (by omega), hlt, S4, acc ++ [rest[k]], rest.eraseIdx k, e1 ++ [e2[k]], e2.eraseIdx k, n5.mut hD0 ds4 hd5 (fun z => z) k0 _, ex4, ps4, ds4, upd_same, by rw [upd_ne hpD, upd_same], (al1.mono (n3.ex.trans n4.ex)).snoc (by cases hdk; exact adk), (al2.mono (n3.ex.trans n4.ex)).erase k, ?_, by rw [List.length_append, li]; rfl⟩
        refine List.Perm.trans ?_ pm
        rw [List.append_assoc]
        exact List.Perm.append_left _ (perm_eraseIdx hk2)
    · have e : i = ds.length := by omega
      subst e
      have l0 : e2 = [] := by
        have := pm.length_eq
        rw [List.length_append] at this
        exact List.eq_nil_of_length_eq_zero (by omega)
      subst l0
      rw [List.append_nil] at pm
      exact .inl ⟨by simpa using w.stop S' H' ex2 n2.ok, q _ ⟨.lst e1, ⟨e1, pm, rfl⟩, rfl⟩ Dl S' H' _ n2 hD0 hs2 hd2 (.lst al1)⟩
theorem sc__law_mixed : FnScope ["_law_source_here", "_law_things", "_law_rest", "_law_lap"] ["_law_source_here", "_law_things"] (defScope (topS 47)) := ⟨rfl, rfl, rfl, by decide +kernel, rfl, by decide +kernel, by decide +kernel⟩
theorem ok__law_mixed (Tk : Kx K mg C) (F : FnP K "_law_mixed" "_law_mixed" (topS 47) f fd) (G_law_pick : Has P w K mg base "_law_pick" ["_law_source_here", "_law_many"] 1 (spP (ΓS T s c) (rPick s))) : FnOk P w K mg base CX0 2 f fd ["_law_source_here", "_law_things"] (spNP (ΓS T s c) (rMixed s)) := by
  have nd := (sc__law_mixed).nd
  have B := Tk.b
  refine fn_okNP F sc__law_mixed (fun as d ⟨_, _, e, _⟩ => by rw [e]; rfl) fun cdv A outer s' H E hr => ?_
  refine ⟨_, (pss_cons (ps_set (i := 2) nd rfl (Or.inr rfl) (w_list K B (pa_cons (pv 1) pa_nil)))
    (pss_one (ps_ret (pe_lc (own := [("_law_lap", 3)]) rfl nd (pi_range1 rfl B.range (pa_cons (w_len K B (pa_cons (pv 2) pa_nil)) pa_nil)) (blkOk_by (by kernel_rfl)) (fun _ _ _ _ _ => (pg_name (i := 3) nd rfl (Or.inl rfl))) (fun _ _ _ _ _ => pts_nil) (fun _ _ _ _ _ => (w_bm K PySem.F.plainAttrs_list PySem.F.slot_list_pop PySem.F.type_list_pop mt_popAt (pv 2) (pa_cons (pe_h G_law_pick hr (pa_cons (pv 0) (pa_cons (w_len K B (pa_cons (pv 2) pa_nil)) pa_nil))) pa_nil))))))), ?_⟩
  rintro as Pd ⟨ds, hz, rfl, rfl⟩
  exact svp_seqD (sv_asgN (en_listL (av_cons (ev_var rfl) av_nil))) (mixed_ret hz)
end
end CW
/-! P18 -/
/-! P18: names. -/
namespace CW
open PySem PySem.Spec PyProof.Rows L2 LamX
section
variable {Γ : Gam} {ρ : Rho} {μ : Mus} {te ta tb tc : TE} {P : D → Prop} {d e x : D} {i j l : Nat} {O : Out → Prop} {K : PySem.W.Frag}
theorem rd_addS {a b : Str} (h : a.length + b.length ≤ 100000) : RD2 Γ (fun x y H Q => ∃ i j, x = V.str i ∧ y = V.str j ∧ i.length + j.length ≤ sizeLine ∧ Q (.str (i ++ j)) H) (.str a) (.str b) (.str (a ++ b)) := fun x y S H h1 h2 k Q q => by
  cases h1; cases h2; exact ⟨a, b, rfl, rfl, szl h, q _ S H (.refl k) (.str _)⟩
theorem ra_strI {i : Int} (h : i.natAbs.log2 < 1920) : RDA Γ (fun xs H Q => ∃ i, xs = [V.int i] ∧ i.natAbs.log2 < 1920 ∧ Q (.str (toString i)) H) [.int i] (.str (toString i)) := fun us S H a k Q q => by
  cases a with
  | cons h t => cases t; cases h; exact ⟨i, rfl, ‹_›, q _ S H (.refl k) (.str _)⟩
theorem ev_slS {tl : TO} {z : Str} {o : Option Int} (h : EvD Γ te ρ (.str z)) (hl : PvD Γ tl ρ o) (hz : z.length ≤ 100000) : EvD Γ (tSl rSlS te tl tNoPart) ρ (.str (cutS z o none)) := fun σ S H s k Q q =>
  h σ S H s k _ fun v S1 H1 n1 a => hl σ S1 H1 (s.mono n1.ex) n1.ok _ fun S2 H2 n2 => by
    cases a
    exact ⟨z, rfl, szl hz, q _ S2 H2 (n1.trans n2) (.str _)⟩
/-- xs.append(e), of e a property -/
theorem svp_app {ds : List D} (hm : getM μ i = some (.lst ds)) (he : EvP Γ te ρ P) (hz : ds.length ≤ 90000) : SvP Γ (tDrop (tBM K "list" rAppend (tVar i) (tCons te tNil))) ρ μ (fun o => ∃ e, P e ∧ o = .nx ρ (updM μ i (.lst (ds ++ [e])))) := fun S0 H0 F S H σ k0 n f s m Dn q => by
  obtain ⟨p, o, h1, h2, h3, h4, h5⟩ := m.at_ i _ (getM_mem hm)
  cases h5 with
  | lst al =>
    refine ⟨_, h1, .inl ⟨rfl, _, .of h4⟩, ?_⟩
    refine he σ S H s n.ok _ fun v S2 H2 e pe n2 a => ?_
    have m2 := m.step k0 n2
    have n02 := n.trans n2
    obtain ⟨p', o', g1, g2, g3, g4, g5⟩ := m2.at_ i _ (getM_mem hm)
    rw [h1] at g1; cases g1
    have h4' : H2 p = some (.lst _) := n2.fr p _ (k0.nb h2) h4
    have al2 := al.mono n2.ex
    refine ⟨p, _, v, rfl, rfl, h4', szlt (by have := al.length; omega), ?_⟩
    exact q _ ⟨e, pe, rfl⟩ σ S2 _ (n02.mut h2 g3 h4' (fun z => z) k0 _) (f.trans n2.ex) (s.mono n2.ex) (m2.upd h1 (getM_mem hm) (.lst (al2.snoc a)))
/-! ### a, b, c = e1, e2, e3 -/
theorem sv_par3_iii (ha : EvD Γ ta ρ x) (hb : EvD Γ tb ρ d) (hc : EvD Γ tc ρ e) (hi : isIn μ i = false := by rfl) (hj : isIn μ j = false := by rfl) (hl : isIn μ l = false := by rfl) :
    SvD Γ (tPar3 i j l (tCons ta (tCons tb (tCons tc tNil)))) ρ μ (.nx (((ρ.set i (some x)).set j (some d)).set l (some e)) μ) := fun S0 H0 F S H σ k0 n f s m Dn q =>
  ha σ S H s n.ok _ fun u S1 H1 n1 a => hb σ S1 H1 (s.mono n1.ex) n1.ok _ fun v S2 H2 n2 b => hc σ S2 H2 (s.mono (n1.ex.trans n2.ex)) n2.ok _ fun w S3 H3 n3 c =>
    ⟨u, v, w, rfl, q _ S3 H3 (((n.trans n1).trans n2).trans n3) (f.trans (n1.ex.trans (n2.ex.trans n3.ex))) ((((s.mono (n1.ex.trans (n2.ex.trans n3.ex))).set i (a.mono (n2.ex.trans n3.ex))).set j (b.mono n3.ex)).set l c) ((((((m.step k0 n1).step k0 n2).step k0 n3).set (not_in hi) _).set (not_in hj) _).set (not_in hl) _)⟩
/-- the second new -/
theorem svp_par3_pni (ha : EvP Γ ta ρ P) (hb : EvN Γ tb ρ d) (hc : EvD Γ tc ρ e) (hjl : j ≠ l := by decide) (hlen : Nat.blt j ρ.length = true := by rfl) (hi : isIn μ i = false := by rfl) (hj : isIn μ j = false := by rfl) (hl : isIn μ l = false := by rfl) :
    SvP Γ (tPar3 i j l (tCons ta (tCons tb (tCons tc tNil)))) ρ μ (fun o => ∃ x, P x ∧ o = .nx (((ρ.set i (some x)).set j none).set l (some e)) ((j, d) :: μ)) := fun S0 H0 F S H σ k0 n f s m Dn q =>
  ha σ S H s n.ok _ fun u S1 H1 x px n1 a => hb σ S1 H1 (s.mono n1.ex) n1.ok _ fun p S2 H2 o n2 hp hs ho b => hc σ S2 H2 (s.mono (n1.ex.trans n2.ex)) n2.ok _ fun w S3 H3 n3 c => by
    have m1 := m.step k0 n1
    have m2 : Mu S2 H2 H0 ((σ.set i (some u)).set j (some (V.ref p))) ((j, d) :: μ) := ((m1.step k0 n2).set (not_in hi) (some u)).put (not_in hj) (by rw [List.length_set, s.len]; exact Nat.le_of_ble_eq_true hlen) (live_of (n.trans n1) hp) hs ho b fun l x hl z => by
      have hil : i ≠ l := fun z => not_in hi (List.mem_map.mpr ⟨_, hl, z.symm⟩)
      rw [List.getElem?_set_ne hil] at z
      obtain ⟨p', o', h1, _, _, h4, _⟩ := m1.at_ l x hl
      rw [h1] at z; cases z
      rw [hp] at h4; cases h4
    have hl' : l ∉ ((j, d) :: μ).map (·.1) := fun z => by
      rcases List.mem_cons.mp z with z | z
      · exact hjl z.symm
      · exact not_in hl z
    exact ⟨u, _, w, rfl, q _ ⟨x, px, rfl⟩ _ S3 H3 (((n.trans n1).trans n2).trans n3) (f.trans (n1.ex.trans (n2.ex.trans n3.ex))) ((((s.mono (n1.ex.trans (n2.ex.trans n3.ex))).set i (a.mono (n2.ex.trans n3.ex))).setN j _).set l c) ((m2.step k0 n3).set hl' _)⟩
/-- the third new -/
theorem sv_par3_iin (ha : EvD Γ ta ρ x) (hb : EvD Γ tb ρ d) (hc : EvN Γ tc ρ e) (hlen : Nat.blt l ρ.length = true := by rfl) (hi : isIn μ i = false := by rfl) (hj : isIn μ j = false := by rfl) (hl : isIn μ l = false := by rfl) :
    SvD Γ (tPar3 i j l (tCons ta (tCons tb (tCons tc tNil)))) ρ μ (.nx (((ρ.set i (some x)).set j (some d)).set l none) ((l, e) :: μ)) := fun S0 H0 F S H σ k0 n f s m Dn q =>
  ha σ S H s n.ok _ fun u S1 H1 n1 a => hb σ S1 H1 (s.mono n1.ex) n1.ok _ fun v S2 H2 n2 b => hc σ S2 H2 (s.mono (n1.ex.trans n2.ex)) n2.ok _ fun p S3 H3 o n3 hp hs ho c => by
    have m2 := (m.step k0 n1).step k0 n2
    have m3 : Mu S3 H3 H0 (((σ.set i (some u)).set j (some v)).set l (some (V.ref p))) ((l, e) :: μ) := (((m2.step k0 n3).set (not_in hi) (some u)).set (not_in hj) (some v)).put (not_in hl) (by rw [List.length_set, List.length_set, s.len]; exact Nat.le_of_ble_eq_true hlen) (live_of ((n.trans n1).trans n2) hp) hs ho c fun l x hl z => by
      have hil : i ≠ l := fun z => not_in hi (List.mem_map.mpr ⟨_, hl, z.symm⟩)
      have hjl : j ≠ l := fun z => not_in hj (List.mem_map.mpr ⟨_, hl, z.symm⟩)
      rw [List.getElem?_set_ne hjl, List.getElem?_set_ne hil] at z
      obtain ⟨p', o', h1, _, _, h4, _⟩ := m2.at_ l x hl
      rw [h1] at z; cases z
      rw [hp] at h4; cases h4
    exact ⟨u, v, _, rfl, q _ S3 H3 (((n.trans n1).trans n2).trans n3) (f.trans (n1.ex.trans (n2.ex.trans n3.ex))) ((((s.mono (n1.ex.trans (n2.ex.trans n3.ex))).set i (a.mono (n2.ex.trans n3.ex))).set j (b.mono n3.ex)).setN l _) m3⟩
end
/-! ### the names, in plain Lean -/
def two (r : Nat) : Str := cutS (toString (100 + (r : Int))) (some 1) none
def dec2 (z : Str) : Nat := z.cps.toList.foldl (fun a c => a * 10 + (c - 48)) 0
theorem two_ok : ∀ r : Fin 100, (two r.1).cps.toList.length = 2 ∧ (∀ c ∈ (two r.1).cps.toList, c ∈ figuresS.cps.toList) ∧ dec2 (two r.1) = r.1 ∧ (Str.ofString (toString (100 + ((r.1 : Nat) : Int)))).length ≤ 100000 := by decide +kernel
def tailsS : List Str := ["", "", "", "k", "kkkkkkkkk"]
structure Nm (r : Nat) (z : Str) : Prop where
  ex : ∃ c t, c ∈ lettersS.cps.toList ∧ t ∈ tailsS ∧ z = (⟨#[c]⟩ ++ two r) ++ t
theorem cps_app (a b : Str) : (a ++ b).cps.toList = a.cps.toList ++ b.cps.toList := by
  show (a.cps ++ b.cps).toList = _
  simp
theorem len_cps (a : Str) : a.length = a.cps.toList.length := by rw [Array.length_toList]; rfl
theorem tails_ok : ∀ t ∈ tailsS, (t.cps.toList.length ≤ 9) ∧ ∀ c ∈ t.cps.toList, c ∈ lettersS.cps.toList := by decide +kernel
theorem Nm.cps {r : Nat} {z : Str} (h : Nm r z) : ∃ c t, c ∈ lettersS.cps.toList ∧ t ∈ tailsS ∧ z.cps.toList = c :: ((two r).cps.toList ++ t.cps.toList) := by
  obtain ⟨c, t, hc, ht, rfl⟩ := h.ex
  exact ⟨c, t, hc, ht, by rw [cps_app, cps_app]; rfl⟩
theorem Nm.word {r : Nat} {z : Str} (h : Nm r z) (hr : r < 100) : Word z := by
  obtain ⟨c, t, hc, ht, e⟩ := h.cps
  obtain ⟨t1, t2⟩ := tails_ok t ht
  obtain ⟨h1, h2, _⟩ := two_ok ⟨r, hr⟩
  dsimp only at h1 h2
  refine ⟨?_, ⟨c, by rw [e]; rfl, hc⟩, fun x hx => ?_⟩
  · rw [len_cps, e, List.length_cons, List.length_append, h1]; omega
  · rw [e] at hx
    rcases List.mem_cons.mp hx with rfl | hx
    · exact .inl hc
    · rcases List.mem_append.mp hx with hx | hx
      · exact .inr (h2 x hx)
      · exact .inl (t2 x hx)
theorem Nm.inj {r r' : Nat} {z : Str} (h : Nm r z) (h' : Nm r' z) (hr : r < 100) (hr' : r' < 100) : r = r' := by
  obtain ⟨c, t, hc, ht, e⟩ := h.cps
  obtain ⟨c', t', hc', ht', e'⟩ := h'.cps
  obtain ⟨h1, _, h3, _⟩ := two_ok ⟨r, hr⟩
  obtain ⟨h1', _, h3', _⟩ := two_ok ⟨r', hr'⟩
  dsimp only at h1 h3 h1' h3'
  rw [e] at e'
  injection e' with _ e'
  have : (two r).cps.toList = (two r').cps.toList := (List.append_inj e' (by rw [h1, h1'])).1
  rw [← h3, ← h3']
  unfold dec2
  rw [this]
/-- the names so far -/
def Nms (sh : Nat) (ps : List Str) : Prop := ∀ (j : Nat) (z : Str), ps[j]? = some z → Nm ((sh + 37 * j) % 100) z
theorem mod_inj {sh i j : Nat} (hi : i < 100) (hj : j < 100) (h : (sh + 37 * i) % 100 = (sh + 37 * j) % 100) : i = j := by omega
theorem nms_ok {sh : Nat} {ps : List Str} (h : Nms sh ps) (hz : ps.length ≤ 16) : PostsOk ps := by
  have lt : ∀ k : Nat, k % 100 < 100 := fun k => Nat.mod_lt _ (by decide)
  refine ⟨List.pairwise_iff_getElem.mpr fun i j hi hj hij e => ?_, hz, fun p hp => ?_⟩
  · have h1 := h i _ (List.getElem?_eq_getElem hi)
    have h2 := h j _ (List.getElem?_eq_getElem hj)
    rw [e] at h1
    have := mod_inj (by omega) (by omega) (h1.inj h2 (lt _) (lt _))
    omega
  · obtain ⟨i, hi, e⟩ := List.getElem_of_mem hp
    exact (h i p (by rw [List.getElem?_eq_getElem hi, e])).word (lt _)
def rNames (s : Addr) (as : List D) (P : D → Prop) : Prop := ∃ n : Nat, n ≤ 16 ∧ as = [.opq s, nI n] ∧ P = fun d => ∃ ps, d = .lst (sS ps) ∧ PostsOk ps ∧ ps.length = n
section
variable {P : Program} {w : World} {K : PySem.W.Frag} {mg : Str → Option Value} {base : Heap} {C : Addr} {f : Addr} {fd : FuncData} {T : List (Addr × Str)} {s c : Addr}
theorem pick_ev {ρ : Rho} {i : Nat} {tn : TE} {n : Nat} (h0 : ρ[i]? = some (some (.opq s))) (hn : EvD (ΓS T s c) tn ρ (nI n)) (h1 : 1 ≤ n) (h2 : n ≤ 1000) : EvP (ΓS T s c) (tCall (spP (ΓS T s c) (rPick s)) [] E0 (tCons (tVar i) (tCons tn tNil))) ρ (below n) :=
  evp_callD (av_cons (ev_var h0) (av_cons hn av_nil)) ⟨n, h1, h2, rfl, rfl⟩
theorem sc__law_names : FnScope ["_law_source_here", "_law_many", "_law_k", "_law_shift", "_law_names_here", "_law_tails", "_law_letter"] ["_law_source_here", "_law_many"] (defScope (topS 48)) := ⟨rfl, rfl, rfl, by decide +kernel, rfl, by decide +kernel, by decide +kernel⟩
theorem ok__law_names (Tk : Kx K mg C) (F : FnP K "_law_names" "_law_names" (topS 48) f fd) (G_law_pick : Has P w K mg base "_law_pick" ["_law_source_here", "_law_many"] 1 (spP (ΓS T s c) (rPick s))) : FnOk P w K mg base CX0 2 f fd ["_law_source_here", "_law_many"] (spP (ΓS T s c) (rNames s)) := by
  have nd := (sc__law_names).nd
  have B := Tk.b
  refine fn_okP F sc__law_names (fun as d ⟨_, _, e, _⟩ => by rw [e]; rfl) fun cdv A outer s' H E hr => ?_
  refine ⟨_, (pss_cons (ps_par3 (i := 3) (j := 4) (l := 5) rfl nd rfl rfl rfl (by decide) (by decide) (by decide) rfl rfl rfl (pa_cons (pe_h G_law_pick hr (pa_cons (pv 0) (pa_cons pe_int pa_nil))) (pa_cons (pe_lst pa_nil) (pa_cons (pe_lst (pa_cons pe_str (pa_cons pe_str (pa_cons pe_str (pa_cons pe_str (pa_cons pe_str pa_nil)))))) pa_nil))) rfl)
    (pss_cons (ps_for PassesOwn.never rfl (pi_range1 rfl B.range (pa_cons (pv 1) pa_nil)) (pg_name (i := 2) nd rfl (Or.inl rfl))
    (pss_cons (ps_set (i := 6) nd rfl (Or.inl rfl) (pe_ix ix_str pe_str (pe_h G_law_pick hr (pa_cons (pv 0) (pa_cons pe_int pa_nil))) (fun _ _ => rfl)))
    (pss_one (ps_expr (pe_bm PySem.F.plainAttrs_list PySem.F.slot_list_append PySem.F.type_list_append mt_append (pv 4) (pa_cons (pe_op op_add_str (pe_op op_add_str (pv 6) (pe_slice sl_str (pe_callTy call_str_int (by rfl) B.str (by decide +kernel) (pa_cons (pe_op op_add pe_int (pe_op op_modN (pe_callTy call_int1 (by rfl) B.int (by decide +kernel) (pa_cons (pe_op op_add (pv 3) (pe_op op_mul pe_int (pv 2))) pa_nil)) pe_int)) pa_nil)) (po_some pe_int) po_none)) (pe_ix (w_ixL K) (pv 5) (pe_h G_law_pick hr (pa_cons (pv 0) (pa_cons pe_int pa_nil))) (fun _ _ => rfl))) pa_nil))))))
    (pss_one (ps_ret (pv 4))))), ?_⟩
  rintro as Pd ⟨n, hn, rfl, rfl⟩
  refine svp_seq (svp_par3_pni (P := below 100) (pick_ev (n := 100) rfl ev_int (by decide) (by decide)) (en_lst av_nil) (ev_lst (av_cons ev_str (av_cons ev_str (av_cons ev_str (av_cons ev_str (av_cons ev_str av_nil))))))) fun o ho => ?_
  obtain ⟨d, ⟨sh, hsh, rfl⟩, rfl⟩ := ho
  refine svp_seq (svp_for (O := fun o => ∃ ps, Nms sh ps ∧ ps.length = n ∧ o = .nx [some (.opq s), some (nI n), none, some (nI sh), none, some (.lst (sS tailsS)), none] [(4, .lst (sS ps))]) (vs := [2, 6]) (xs := List.range n) (enc := nI) (wv_rng1 (n := n) (av_cons (ev_var rfl) av_nil) (by omega))
    (fun i ρ μ => ∃ ps, Nms sh ps ∧ ps.length = i ∧ ρ = [some (.opq s), some (nI n), none, some (nI sh), none, some (.lst (sS tailsS)), none] ∧ μ = [(4, .lst (sS ps))]) ⟨[], fun j z hz => by simp at hz, rfl, rfl, rfl⟩ (fun i x ρi μi hx hI => ?_) (fun ρ' μ' hI => ?_)) fun o ho => ?_
  · obtain ⟨ps, h1, h2, rfl, rfl⟩ := hI
    have hxi : x = i := by
      obtain ⟨_, e⟩ := List.getElem?_eq_some_iff.mp hx
      simpa using e.symm
    have hin : i < n := by
      have := (List.getElem?_eq_some_iff.mp hx).1
      simpa using this
    subst hxi
    refine ⟨_, gv_name (by decide), fun j hj => ?_, ?_⟩
    · rcases List.mem_cons.mp hj with rfl | hj
      · rfl
      · rw [List.mem_singleton.mp hj]; rfl
    refine svp_seq (svp_asgS (P := fun d => ∃ c ∈ lettersS.cps.toList, d = .str ⟨#[c]⟩) (evp_op (P1 := fun d => d = .str lettersS) (P2 := below 26) (EvD.p ev_str rfl) (pick_ev (n := 26) rfl ev_int (by decide) (by decide)) fun a b ea ⟨k, hk, eb⟩ => ?_) fun d ⟨c, _, e⟩ => by rw [e]; rfl) fun o ho => ?_
    · subst ea eb
      have hl : lettersS.cps.toList.length = 26 := by decide +kernel
      have hk2 : k < lettersS.cps.toList.length := by omega
      exact ⟨_, ⟨lettersS.cps.toList[k], List.getElem_mem hk2, rfl⟩, rd_ixS (n := k) rfl (by decide) (List.getElem?_eq_getElem hk2)⟩
    obtain ⟨d, ⟨c, hc, rfl⟩, rfl⟩ := ho
    have hr100 : (sh + 37 * x) % 100 < 100 := Nat.mod_lt _ (by decide)
    obtain ⟨w1, w2, w3, w4⟩ := two_ok ⟨(sh + 37 * x) % 100, hr100⟩
    dsimp only at w1 w4
    have er : ((sh : Int) + 37 * (x : Int)).fmod 100 = (((sh + 37 * x) % 100 : Nat) : Int) := by
      rw [Int.fmod_eq_emod_of_nonneg _ (by decide)]
      omega
    have lg : ((100 : Int) + (((sh + 37 * x) % 100 : Nat) : Int)).natAbs.log2 < 1920 := by
      have h2 : ((100 : Int) + (((sh + 37 * x) % 100 : Nat) : Int)).natAbs < 2 ^ 8 := by omega
      exact Nat.lt_trans (Nat.lt_of_le_of_lt (Nat.log2_le_self _) h2) (by decide)
    refine SvP.imp (svp_app (P := fun d => ∃ z, Nm ((sh + 37 * x) % 100) z ∧ d = .str z) rfl (evp_op (P1 := fun d => d = .str (⟨#[c]⟩ ++ two ((sh + 37 * x) % 100))) (P2 := fun d => ∃ t ∈ tailsS, d = .str t)
      (EvD.p (ev_op (ev_var rfl) (ev_slS (ev_cb (av_cons (EvD.is (ev_op ev_int (EvD.is (ev_op (ev_cb (av_cons (ev_op (ev_var rfl) (ev_op ev_int (ev_var rfl) (rd_mul (.inl ⟨by decide, by decide⟩))) rd_add) av_nil) ra_int1) ev_int (rd_modN (by decide))) (congrArg D.int er)) rd_add) rfl) av_nil) (ra_strI lg)) (pv_some ev_int) w4) (rd_addS ?_)) rfl)
      (evp_op (P1 := fun d => d = .lst (sS tailsS)) (P2 := below 5) (EvD.p (ev_var rfl) rfl) (pick_ev (n := 5) rfl ev_int (by decide) (by decide)) fun a b ea ⟨k, hk, eb⟩ => ?_) fun a b ea ⟨t, ht, eb⟩ => ?_) (by rw [List.length_map]; omega)) fun o ho => ?_
    · show (⟨#[c]⟩ : Str).length + (two _).length ≤ 100000
      rw [len_cps, len_cps, w1]; show 1 + 2 ≤ 100000; decide
    · subst ea eb
      have hk2 : k < tailsS.length := hk
      exact ⟨_, ⟨tailsS[k], List.getElem_mem hk2, rfl⟩, rd_ixL (n := k) rfl (by rw [List.getElem?_map, List.getElem?_eq_getElem hk2]; rfl)⟩
    · subst ea eb
      refine ⟨_, ⟨_, ⟨c, t, hc, ht, rfl⟩, rfl⟩, rd_addS ?_⟩
      have := (tails_ok t ht).1
      rw [len_cps, len_cps, cps_app, List.length_append, w1]
      show 1 + 2 + _ ≤ _
      omega
    · obtain ⟨e, ⟨z, hz, rfl⟩, rfl⟩ := ho
      refine ⟨_, _, .inl rfl, ps ++ [z], fun j y hy => ?_, by rw [List.length_append, h2]; rfl, rfl, ?_⟩
      · by_cases hj : j < ps.length
        · rw [List.getElem?_append_left hj] at hy; exact h1 j y hy
        · rw [List.getElem?_append_right (by omega)] at hy
          have : j - ps.length = 0 := by
            have := (List.getElem?_eq_some_iff.mp hy).1
            simpa using this
          rw [this] at hy
          have ej : j = x := by omega
          rw [ej]; cases hy; exact hz
      · show [(4, D.lst _)] = [(4, D.lst _)]
        rw [← sS_snoc]
  · obtain ⟨ps, h1, h2, rfl, rfl⟩ := hI
    exact ⟨ps, h1, by rw [h2, List.length_range], rfl⟩
  · obtain ⟨ps, h1, h2, rfl⟩ := ho
    exact svp_ret (P := fun d => ∃ ps, d = .lst (sS ps) ∧ PostsOk ps ∧ ps.length = n) (EvD.p (ev_var rfl) ⟨ps, rfl, nms_ok h1 (by omega), h2⟩) fun d hd => ⟨d, hd, rfl⟩
end
end CW
/-! M13 -/
/-! M13: drawn ties, in plain Lean. -/
namespace CW
open PySem PySem.Spec PyProof.Rows L2 LamX
abbrev Tie := Str × Str
structure Ti (q : List Str) (ts : List Tie) : Prop where
  on : ∀ t ∈ ts, t.1 ∈ q ∧ t.2 ∈ q ∧ t.1 ≠ t.2
  ap : ts.Pairwise fun a b => a ≠ b ∧ a ≠ (b.2, b.1)
theorem Ti.ok {q : List Str} {ts : List Tie} (h : Ti q ts) (z : ts.length ≤ 1000) : TiesOk q ts := ⟨h.on, h.ap, z⟩
theorem ti_nil (q : List Str) : Ti q [] := ⟨fun t ht => (nomatch ht), List.Pairwise.nil⟩
theorem Ti.add {q : List Str} {ts : List Tie} {x : Str} {ys : List Str} (h : Ti q ts) (hx : x ∉ q) (hn : ys.Nodup) (hs : ∀ y ∈ ys, y ∈ q) : Ti (q ++ [x]) (ts ++ ys.map fun y => (y, x)) := by
  refine ⟨fun t ht => ?_, ?_⟩
  · rcases List.mem_append.mp ht with ht | ht
    · obtain ⟨a, b, c⟩ := h.on t ht
      exact ⟨List.mem_append_left _ a, List.mem_append_left _ b, c⟩
    · obtain ⟨y, hy, rfl⟩ := List.mem_map.mp ht
      exact ⟨List.mem_append_left _ (hs y hy), List.mem_append_right _ (List.mem_singleton.mpr rfl), fun e => hx (by have := hs y hy; have e : y = x := e; rwa [e] at this)⟩
  · rw [List.pairwise_append]
    refine ⟨h.ap, ?_, fun a ha b hb => ?_⟩
    · rw [List.pairwise_map]
      refine List.Pairwise.imp_of_mem (fun {y z} hy hz hyz => ?_) hn
      exact ⟨fun e => hyz (Prod.mk.inj e).1, fun e => hx (by have := hs y hy; rw [(Prod.mk.inj e).1] at this; exact this)⟩
    · obtain ⟨y, hy, rfl⟩ := List.mem_map.mp hb
      obtain ⟨h1, h2, _⟩ := h.on a ha
      exact ⟨fun e => hx (by rw [e] at h2; exact h2), fun e => hx (by rw [e] at h1; exact h1)⟩
def Flip (t u : Tie) : Prop := u = t ∨ u = (t.2, t.1)
def Tn (ts us : List Tie) : Prop := ∃ vs, vs.Perm ts ∧ All2 Flip vs us
theorem All2.mem {β γ : Type} {R : β → γ → Prop} {y : γ} : ∀ {xs : List β} {ys : List γ}, All2 R xs ys → y ∈ ys → ∃ x ∈ xs, R x y
  | _, _, .nil, h => by cases h
  | _, _, .cons r t, h => by
    rcases List.mem_cons.mp h with rfl | h
    · exact ⟨_, List.mem_cons_self, r⟩
    · obtain ⟨x, a, b⟩ := t.mem h
      exact ⟨x, List.mem_cons_of_mem _ a, b⟩
theorem flip_ap {a b a' b' : Tie} (h : a ≠ b ∧ a ≠ (b.2, b.1)) (ha : Flip a a') (hb : Flip b b') : a' ≠ b' ∧ a' ≠ (b'.2, b'.1) := by
  obtain ⟨a1, a2⟩ := a
  obtain ⟨b1, b2⟩ := b
  have h1 : ¬ (a1 = b1 ∧ a2 = b2) := fun z => h.1 (by rw [z.1, z.2])
  have h2 : ¬ (a1 = b2 ∧ a2 = b1) := fun z => h.2 (by rw [z.1, z.2])
  rcases ha with rfl | rfl <;> rcases hb with rfl | rfl
  · exact ⟨fun e => h1 ⟨(Prod.mk.inj e).1, (Prod.mk.inj e).2⟩, fun e => h2 ⟨(Prod.mk.inj e).1, (Prod.mk.inj e).2⟩⟩
  · exact ⟨fun e => h2 ⟨(Prod.mk.inj e).1, (Prod.mk.inj e).2⟩, fun e => h1 ⟨(Prod.mk.inj e).1, (Prod.mk.inj e).2⟩⟩
  · exact ⟨fun e => h2 ⟨(Prod.mk.inj e).2, (Prod.mk.inj e).1⟩, fun e => h1 ⟨(Prod.mk.inj e).2, (Prod.mk.inj e).1⟩⟩
  · exact ⟨fun e => h1 ⟨(Prod.mk.inj e).2, (Prod.mk.inj e).1⟩, fun e => h2 ⟨(Prod.mk.inj e).2, (Prod.mk.inj e).1⟩⟩
theorem all2_ap : ∀ {vs us : List Tie}, All2 Flip vs us → (vs.Pairwise fun a b => a ≠ b ∧ a ≠ (b.2, b.1)) → us.Pairwise fun a b => a ≠ b ∧ a ≠ (b.2, b.1)
  | _, _, .nil, _ => .nil
  | _, _, .cons r t, h => by
    obtain ⟨h1, h2⟩ := List.pairwise_cons.mp h
    refine List.pairwise_cons.mpr ⟨fun b hb => ?_, all2_ap t h2⟩
    obtain ⟨x, hx, rx⟩ := t.mem hb
    exact flip_ap (h1 x hx) r rx
theorem Tn.ok {ps : List Str} {ts us : List Tie} (h : Tn ts us) (k : TiesOk ps ts) : TiesOk ps us := by
  obtain ⟨vs, pm, al⟩ := h
  refine ⟨fun u hu => ?_, all2_ap al (pm.symm.pairwise k.ap fun {a b} z => ⟨fun e => z.1 e.symm, fun e => z.2 (by rw [e])⟩), by rw [al.len, pm.length_eq]; exact k.sz⟩
  obtain ⟨t, ht, r⟩ := al.mem hu
  obtain ⟨a, b, c⟩ := k.on t (pm.mem_iff.mp ht)
  rcases r with rfl | rfl
  · exact ⟨a, b, c⟩
  · exact ⟨b, a, fun e => c e.symm⟩
theorem TiesOk.perm {ps qs : List Str} {ts : List Tie} (h : TiesOk ps ts) (p : qs.Perm ps) : TiesOk qs ts := ⟨fun t ht => let ⟨a, b, c⟩ := h.on t ht; ⟨p.mem_iff.mpr a, p.mem_iff.mpr b, c⟩, h.ap, h.sz⟩
theorem PostsOk.perm {ps qs : List Str} (h : PostsOk ps) (p : qs.Perm ps) : PostsOk qs := ⟨p.nodup_iff.mpr h.nd, by rw [p.length_eq]; exact h.sz, fun x hx => h.wd x (p.mem_iff.mp hx)⟩
theorem perm_map {α β : Type} {f : α → β} : ∀ {es l : List β}, es.Perm l → ∀ xs : List α, l = xs.map f → ∃ ys : List α, ys.Perm xs ∧ es = ys.map f := fun {es l} h => by
  induction h with
  | nil => intro xs e; cases xs with
    | nil => exact ⟨[], .refl _, rfl⟩
    | cons a r => cases e
  | cons a h ih =>
    intro xs e
    cases xs with
    | nil => cases e
    | cons x xs =>
      injection e with e1 e2
      obtain ⟨ys, p, e3⟩ := ih xs e2
      exact ⟨x :: ys, p.cons x, by rw [e3, e1]; rfl⟩
  | swap a b l =>
    intro xs e
    cases xs with
    | nil => cases e
    | cons x xs =>
      cases xs with
      | nil => cases e
      | cons y xs =>
        injection e with e1 e2
        injection e2 with e2 e3
        exact ⟨y :: x :: xs, .swap _ _ _, by rw [e1, e2, e3]; rfl⟩
  | trans h1 h2 ih1 ih2 =>
    intro xs e
    obtain ⟨ys, p, e2⟩ := ih2 xs e
    obtain ⟨zs, p2, e3⟩ := ih1 ys e2
    exact ⟨zs, p2.trans p, e3⟩
theorem take_snoc {α : Type} {ps : List α} {i : Nat} {x : α} (h : ps[i]? = some x) : ps.take (i + 1) = ps.take i ++ [x] := by rw [List.take_add_one, h]; rfl
theorem notin_take {ps : List Str} (hn : ps.Nodup) {i : Nat} {x : Str} (h : ps[i]? = some x) : x ∉ ps.take i := fun z => by
  obtain ⟨j, hj, e⟩ := List.mem_take_iff_getElem.mp z
  obtain ⟨hi, e2⟩ := List.getElem?_eq_some_iff.mp h
  have := (List.getElem_inj hn).mp (e.trans e2.symm)
  omega
/-- the ring's ties -/
def ringTies (ps : List Str) (k : Nat) : List Tie := (List.range k).map fun n => (ps.getD n Str.empty, ps.getD ((n + 1) % k) Str.empty)
theorem ring_ti {ps : List Str} {k : Nat} (hn : ps.Nodup) (h3 : 3 ≤ k) (hk : k ≤ ps.length) : Ti (ps.take k) (ringTies ps k) := by
  have gd : ∀ n, n < k → ps.getD n Str.empty ∈ ps.take k := fun n hn => by
    rw [List.getD_eq_getElem?_getD, List.getElem?_eq_getElem (by omega)]
    exact List.mem_take_iff_getElem.mpr ⟨n, by omega, rfl⟩
  have inj : ∀ n m, n < k → m < k → ps.getD n Str.empty = ps.getD m Str.empty → n = m := fun n m h1 h2 e => by
    rw [List.getD_eq_getElem?_getD, List.getD_eq_getElem?_getD, List.getElem?_eq_getElem (by omega), List.getElem?_eq_getElem (by omega)] at e
    exact (List.getElem_inj hn).mp e
  have md : ∀ n, (n + 1) % k < k := fun n => Nat.mod_lt _ (by omega)
  have md2 : ∀ n, n < k → ((n + 1) % k = n + 1 ∧ n + 1 < k) ∨ ((n + 1) % k = 0 ∧ n + 1 = k) := fun n h => by
    by_cases e : n + 1 = k
    · exact .inr ⟨by rw [e, Nat.mod_self], e⟩
    · exact .inl ⟨Nat.mod_eq_of_lt (by omega), by omega⟩
  refine ⟨fun t ht => ?_, ?_⟩
  · obtain ⟨n, hn2, rfl⟩ := List.mem_map.mp ht
    have hn2 := List.mem_range.mp hn2
    refine ⟨gd n hn2, gd _ (md n), fun e => ?_⟩
    have := inj _ _ hn2 (md n) e
    have := md2 n hn2
    omega
  · unfold ringTies
    rw [List.pairwise_map]
    refine List.Pairwise.imp_of_mem (fun {a b} ha hb hab => ?_) (List.nodup_range (n := k))
    have ha := List.mem_range.mp ha
    have hb := List.mem_range.mp hb
    refine ⟨fun e => hab (inj _ _ ha hb (Prod.mk.inj e).1), fun e => ?_⟩
    have e1 := inj _ _ ha (md b) (Prod.mk.inj e).1
    have e2 := inj _ _ (md a) hb (Prod.mk.inj e).2
    have := md2 a ha
    have := md2 b hb
    omega
end CW
/-! P19 -/
/-! P19: drawn ties. -/
namespace CW
open PySem PySem.Spec PyProof.Rows L2 LamX
/-- xs[:n], n drawn -/
theorem enp_toL {Γ : Gam} {ρ : Rho} {K : PySem.W.Frag} {te tb : TE} {ds : List D} {Pn : Nat → Prop} (h : EvD Γ te ρ (.lst ds)) (hl : EvP Γ tb ρ fun d => ∃ n, Pn n ∧ d = nI n) : EnP Γ (tSl (rSlL K) te tNoPart (tPart tb)) ρ (fun d => ∃ n, Pn n ∧ d = .lst (ds.take n)) := fun σ S H s k Q q =>
  h σ S H s k _ fun v S1 H1 n1 a => hl σ S1 H1 (s.mono n1.ex) n1.ok _ fun u S2 H2 d hd n2 b => by
    obtain ⟨n, hn, rfl⟩ := hd
    cases b
    cases a with
    | lst e al =>
      rename_i p vs
      refine ⟨_, rfl, _, _, rfl, .of (n2.ok.ex _ _ (n2.ex _ _ e)), fun q' hq => q q' S2 _ (.lst (vs.take n)) _ ⟨n, hn, rfl⟩ ((n1.trans n2).trans (.hid n2.ok hq _)) (live_of n1 (live_of n2 hq)) (n2.ok.fresh hq) ?_ (.lst ((al.mono n2.ex).take n))⟩
      rw [upd_same]
      unfold cutV
      rw [cut_to]
theorem evp_addN {Γ : Gam} {ρ : Rho} {tb : TE} {m n : Nat} (hb : EvP Γ tb ρ (below n)) : EvP Γ (tOp (rI0 fun i j => .int (i + j)) (tC (.int (m : Int))) tb) ρ (fun d => ∃ k, (m ≤ k ∧ k < m + n) ∧ d = nI k) :=
  evp_op (P1 := fun d => d = nI m) (EvD.p ev_int rfl) hb fun a b ea ⟨k, hk, eb⟩ => by subst ea eb; exact ⟨_, ⟨m + k, ⟨Nat.le_add_right _ _, Nat.add_lt_add_left hk m⟩, rfl⟩, rd_I0 fun _ => by show At _ (.int ((m : Int) + (k : Int))) (.int ((m + k : Nat) : Int)); rw [Int.natCast_add]; exact .int _⟩
theorem evp_eq0 {Γ : Gam} {ρ : Rho} {tb : TE} {P : D → Prop} (hb : EvP Γ tb ρ P) (hP : ∀ d, P d → isI d) : TvP Γ (tTest (tOp rEq tb (tC (.int 0)))) ρ (fun _ => True) := tvp_test (evp_op (P2 := fun d => d = .int 0) hb (EvD.p ev_int rfl) fun a b pa eb => by
  obtain ⟨i, rfl⟩ := hP a pa
  subst eb
  exact ⟨_, ⟨_, trivial, rfl⟩, rd_eqI⟩)
theorem rd_cat {Γ : Gam} {ds es : List D} (hz : ds.length + es.length ≤ 90000) : RD2 Γ rCat (.lst ds) (.lst es) (.lst (ds ++ es)) := fun x y S H a b k Q q => by
  cases a with
  | lst e1 a1 =>
    cases b with
    | lst e2 a2 => exact ⟨_, _, _, _, rfl, rfl, k.ex _ _ e1, k.ex _ _ e2, szl (by rw [a1.length, a2.length]; omega), fun p hp => q _ _ _ (.new k hp _) (.lst upd_same ((a1.append a2).mono (Ex.new (k.fresh hp))))⟩
def rTiesOf (s : Addr) (as : List D) (P : D → Prop) : Prop := ∃ ps : List Str, PostsOk ps ∧ as = [.opq s, .lst (sS ps)] ∧ P = fun d => ∃ ts, d = .lst (ts.map tieD) ∧ TiesOk ps ts
def rAnyTies (s : Addr) (as : List D) (P : D → Prop) : Prop := ∃ (ps : List Str) (m : Nat), PostsOk ps ∧ 1 ≤ m ∧ m ≤ 1000 ∧ as = [.opq s, .lst (sS ps), nI m] ∧ P = fun d => ∃ ts, d = .lst (ts.map tieD) ∧ TiesOk ps ts
def rTurned (s : Addr) (as : List D) (P : D → Prop) : Prop := ∃ ts : List Tie, ts.length ≤ 1000 ∧ as = [.opq s, .lst (ts.map tieD)] ∧ P = fun d => ∃ us, Tn ts us ∧ d = .lst (us.map tieD)
abbrev lS (xs : List Str) : D := .lst (sS xs)
/-- the crowds drawn so far, of the posts q -/
structure Cs (q : List Str) (cs : List (List Str)) : Prop where
  sub : ∀ c ∈ cs, ∀ x ∈ c, x ∈ q
  nd : ∀ c ∈ cs, c.Nodup
  ne : ∀ c ∈ cs, c ≠ []
theorem sublist_len {ps : List Str} {c : List Str} (hn : c.Nodup) (hs : ∀ x ∈ c, x ∈ ps) : c.length ≤ ps.length := CT.len_le_of_sub hn hs
section
variable {P : Program} {w : World} {K : PySem.W.Frag} {mg : Str → Option Value} {base : Heap} {C : Addr} {f : Addr} {fd : FuncData} {T : List (Addr × Str)} {s c : Addr}
theorem sc__law_turned_ties : FnScope ["_law_source_here", "_law_ties", "_law_tie"] ["_law_source_here", "_law_ties"] (defScope (topS 51)) := ⟨rfl, rfl, rfl, by decide +kernel, rfl, by decide +kernel, by decide +kernel⟩
theorem ok__law_turned_ties (Tk : Kx K mg C) (F : FnP K "_law_turned_ties" "_law_turned_ties" (topS 51) f fd) (G_law_pick : Has P w K mg base "_law_pick" ["_law_source_here", "_law_many"] 1 (spP (ΓS T s c) (rPick s)))
    (G_law_mixed : Has P w K mg base "_law_mixed" ["_law_source_here", "_law_things"] 2 (spNP (ΓS T s c) (rMixed s))) : FnOk P w K mg base CX0 3 f fd ["_law_source_here", "_law_ties"] (spP (ΓS T s c) (rTurned s)) := by
  have nd := (sc__law_turned_ties).nd
  have B := Tk.b
  refine fn_okP F sc__law_turned_ties (fun as d ⟨_, _, e, _⟩ => by rw [e]; rfl) fun cdv A outer s' H E hr => ?_
  refine ⟨_, (pss_one (ps_ret (pe_lc (own := [("_law_tie", 2)]) rfl nd (w_piL K (pe_h G_law_mixed hr (pa_cons (pv 0) (pa_cons (pv 1) pa_nil)))) (blkOk_by (by kernel_rfl)) (fun _ _ _ _ _ => (pg_name (i := 2) nd rfl (Or.inl rfl))) (fun _ _ _ _ _ => pts_nil) (fun _ _ _ _ _ => (pe_ix (w_ixL K) (pe_lst (pa_cons (pv 2) (pa_cons (pe_rev2 K (pv 2)) pa_nil))) (pe_h G_law_pick hr (pa_cons (pv 0) (pa_cons pe_int pa_nil))) (fun _ _ => rfl)))))), ?_⟩
  rintro as Pd ⟨ts, hz, rfl, rfl⟩
  refine svp_ret (P := fun d => ∃ us, Tn ts us ∧ d = .lst (us.map tieD)) (EvP.imp (EnP.ev (enp_lcM (R := Flip) (enc := tieD) (enc2 := tieD) (PX := fun us => us.Perm ts) (wvp_list (EvP.imp (EnP.ev (enp_callD (av_cons (ev_var rfl) (av_cons (ev_var rfl) av_nil)) ⟨ts.map tieD, by rw [List.length_map]; exact hz, rfl, rfl⟩)) fun d ⟨es, pm, e⟩ => ?_)) (fun xs px => by rw [px.length_eq]; omega) fun xs px t ht => ⟨_, gv_name (by decide), ?_⟩)) fun d ⟨xs, ys, px, al, e⟩ => ⟨ys, ⟨xs, px, al⟩, e⟩) fun d hd => ⟨d, hd, rfl⟩
  · obtain ⟨ys, p2, e2⟩ := perm_map pm ts rfl
    exact ⟨ys, p2, by rw [e, e2]⟩
  · refine evp_op (P1 := fun d => d = .lst [tieD t, tieD (t.2, t.1)]) (EvD.p (ev_lst (av_cons (ev_var rfl) (av_cons (ev_rev2 (ev_var rfl)) av_nil))) rfl) (pick_ev (n := 2) rfl ev_int (by decide) (by decide)) fun a b ea ⟨k, hk, eb⟩ => ?_
    subst ea eb
    rcases k with _ | _ | k
    · exact ⟨_, ⟨t, .inl rfl, rfl⟩, rd_ixL (n := 0) rfl rfl⟩
    · exact ⟨_, ⟨_, .inr rfl, rfl⟩, rd_ixL (n := 1) rfl rfl⟩
    · omega
theorem sc__law_any_ties : FnScope ["_law_source_here", "_law_posts", "_law_share", "_law_ties", "_law_k", "_law_other"] ["_law_source_here", "_law_posts", "_law_share"] (defScope (topS 50)) := ⟨rfl, rfl, rfl, by decide +kernel, rfl, by decide +kernel, by decide +kernel⟩
theorem ok__law_any_ties (Tk : Kx K mg C) (F : FnP K "_law_any_ties" "_law_any_ties" (topS 50) f fd) (G_law_pick : Has P w K mg base "_law_pick" ["_law_source_here", "_law_many"] 1 (spP (ΓS T s c) (rPick s))) : FnOk P w K mg base CX0 2 f fd ["_law_source_here", "_law_posts", "_law_share"] (spP (ΓS T s c) (rAnyTies s)) := by
  have nd := (sc__law_any_ties).nd
  have B := Tk.b
  refine fn_okP F sc__law_any_ties (fun as d ⟨_, _, _, _, _, e, _⟩ => by rw [e]; rfl) fun cdv A outer s' H E hr => ?_
  refine ⟨_, (pss_cons (ps_set (i := 3) nd rfl (Or.inl rfl) (pe_lst pa_nil))
    (pss_cons (ps_for PassesOwn.never rfl (pi_range1 rfl B.range (pa_cons (w_len K B (pa_cons (pv 1) pa_nil)) pa_nil)) (pg_name (i := 4) nd rfl (Or.inr rfl))
    (pss_one (ps_set (i := 3) nd rfl (Or.inl rfl) (pe_op op_cat (pv 3) (pe_lc (own := [("_law_other", 5)]) rfl nd (w_piL K (pe_slice (w_slL K) (pv 1) po_none (po_some (pv 4)))) (blkOk_by (by kernel_rfl)) (fun _ _ _ _ _ => (pg_name (i := 5) nd rfl (Or.inl rfl))) (fun _ _ _ _ _ => pts_one (pt_cmpR op_eq (pe_h G_law_pick hr (pa_cons (pv 0) (pa_cons (pv 2) pa_nil))) pe_int (nomark _))) (fun _ _ _ _ _ => (pe_tup (pa_cons (pv 5) (pa_cons (pe_ix (w_ixL K) (pv 1) (pv 4) (fun _ _ => rfl)) pa_nil)))))))))
    (pss_one (ps_ret (pv 3))))), ?_⟩
  rintro as Pd ⟨ps, m, hp, hm1, hm2, rfl, rfl⟩
  have hs := hp.sz
  refine svp_seqD (sv_asg (ev_lst av_nil)) ?_
  refine svp_seq (svp_for (O := fun o => ∃ ts, TiesOk ps ts ∧ o = .nx [some (.opq s), some (lS ps), some (nI m), some (.lst (ts.map tieD)), none, none] []) (vs := [4, 5]) (xs := List.range ps.length) (enc := nI) (wv_rng1 (n := ps.length) (av_cons (EvD.is (ev_cb (av_cons (ev_var rfl) av_nil) ra_len) (by rw [List.length_map])) av_nil) (by omega))
    (fun i ρ μ => ∃ ts, Ti (ps.take i) ts ∧ ts.length ≤ 16 * i ∧ ρ = [some (.opq s), some (lS ps), some (nI m), some (.lst (ts.map tieD)), none, none] ∧ μ = []) ⟨[], ti_nil _, Nat.zero_le _, rfl, rfl⟩ (fun i x ρi μi hx hI => ?_) (fun ρ' μ' hI => ?_)) fun o ho => ?_
  · obtain ⟨ts, h1, h2, rfl, rfl⟩ := hI
    have hxi : x = i := by
      obtain ⟨_, e⟩ := List.getElem?_eq_some_iff.mp hx
      simpa using e.symm
    have hin : i < ps.length := by simpa using (List.getElem?_eq_some_iff.mp hx).1
    subst hxi
    refine ⟨_, gv_name (by decide), fun j hj => rfl, ?_⟩
    have gx := getD_get ps x hin
    refine SvP.imp (svp_asg (P := fun d => ∃ ys : List Str, ys.Sublist (ps.take x) ∧ d = .lst ((ts ++ ys.map fun y => (y, ps.getD x Str.empty)).map tieD)) (evp_op (P1 := fun d => d = .lst (ts.map tieD)) (EvD.p (ev_var rfl) rfl)
      (EnP.ev (enp_lcS (xs := ps.take x) (enc := .str) (enc2 := tieD) (h := fun y => (y, ps.getD x Str.empty)) (wv_list (EvD.is (EvN.ev (ev_toL (n := x) (ev_var rfl) (pv_some (ev_var rfl)) rfl)) (by rw [List.map_take]))) (by rw [List.length_take]; omega) fun y hy => ⟨_, gv_name (by decide), evp_eq0 (pick_ev rfl (ev_var rfl) hm1 hm2) (fun d ⟨k, _, e⟩ => ⟨_, e⟩), ev_tup (av_cons (ev_var rfl) (av_cons (ev_op (ev_var rfl) (ev_var rfl) (rd_ixL (n := x) rfl (getD_map ps .str x Str.empty hin))) av_nil))⟩)) fun a b ea ⟨ys, hys, eb⟩ => ?_)) fun o ho => ?_
    · subst ea eb
      have l1 := hys.length_le
      rw [List.length_take] at l1
      refine ⟨_, ⟨ys, hys, rfl⟩, ?_⟩
      rw [List.map_append]
      exact rd_cat (by simp only [List.length_map]; omega)
    · obtain ⟨d, ⟨ys, hys, rfl⟩, rfl⟩ := ho
      refine ⟨_, _, .inl rfl, _, ?_, ?_, rfl, rfl⟩
      · rw [take_snoc gx]
        exact h1.add (notin_take hp.nd gx) (hp.nd.sublist (List.take_sublist _ _) |>.sublist hys) fun y hy => hys.subset hy
      · rw [List.length_append, List.length_map]
        have l1 := hys.length_le
        rw [List.length_take] at l1
        omega
  · obtain ⟨ts, h1, h2, rfl, rfl⟩ := hI
    rw [List.length_range] at h1 h2
    rw [List.take_of_length_le (Nat.le_refl _)] at h1
    exact ⟨ts, h1.ok (by omega), rfl⟩
  · obtain ⟨ts, h1, rfl⟩ := ho
    exact svp_ret (P := fun d => ∃ ts, d = .lst (ts.map tieD) ∧ TiesOk ps ts) (EvD.p (ev_var rfl) ⟨ts, rfl, h1⟩) fun d hd => ⟨d, hd, rfl⟩
theorem sc__law_good_ties : FnScope ["_law_source_here", "_law_posts", "_law_post", "_law_ties", "_law_crowds_here", "_law_some", "_law_crowd", "_law_other"] ["_law_source_here", "_law_posts"] (defScope (topS 49)) := ⟨rfl, rfl, rfl, by decide +kernel, rfl, by decide +kernel, by decide +kernel⟩
theorem ok__law_good_ties (Tk : Kx K mg C) (F : FnP K "_law_good_ties" "_law_good_ties" (topS 49) f fd) (G_law_pick : Has P w K mg base "_law_pick" ["_law_source_here", "_law_many"] 1 (spP (ΓS T s c) (rPick s)))
    (G_law_of : Has P w K mg base "_law_of" ["_law_source_here", "_law_some"] 2 (spP (ΓS T s c) (rOf s))) (G_law_mixed : Has P w K mg base "_law_mixed" ["_law_source_here", "_law_things"] 2 (spNP (ΓS T s c) (rMixed s))) : FnOk P w K mg base CX0 3 f fd ["_law_source_here", "_law_posts"] (spP (ΓS T s c) (rTiesOf s)) := by
  have nd := (sc__law_good_ties).nd
  have B := Tk.b
  refine fn_okP F sc__law_good_ties (fun as d ⟨_, _, e, _⟩ => by rw [e]; rfl) fun cdv A outer s' H E hr => ?_
  refine ⟨_, (pss_cons (ps_par (i := 3) (j := 4) rfl nd rfl rfl (by decide) rfl rfl (pa_cons (pe_lst pa_nil) (pa_cons (pe_lst pa_nil) pa_nil)) rfl)
    (pss_cons (ps_for PassesOwn.never rfl (w_piL K (pv 1)) (pg_name (i := 2) nd rfl (Or.inr rfl))
    (pss_cons (ps_set (i := 5) nd rfl (Or.inl rfl) (pe_lst pa_nil))
    (pss_cons (ps_if (PW.pt (pw_and (pt_cmpR (w_neD K hr) (pv 4) (pe_lst pa_nil) (nomark _)) (pw_and1 (pt_cmpR op_gt (pe_h G_law_pick hr (pa_cons (pv 0) (pa_cons pe_int pa_nil))) pe_int (nomark _))))) (pss_cons (ps_set (i := 6) nd rfl (Or.inl rfl) (pe_h G_law_mixed hr (pa_cons (pv 0) (pa_cons (pe_h G_law_of hr (pa_cons (pv 0) (pa_cons (pv 4) pa_nil))) pa_nil))))
    (pss_one (ps_set (i := 5) nd rfl (Or.inl rfl) (pe_slice (w_slL K) (pv 6) po_none (po_some (pe_op op_add pe_int (pe_h G_law_pick hr (pa_cons (pv 0) (pa_cons (w_len K B (pa_cons (pv 6) pa_nil)) pa_nil))))))))) pss_nil)
    (pss_cons (ps_set (i := 3) nd rfl (Or.inl rfl) (pe_op op_cat (pv 3) (pe_lc (own := [("_law_other", 7)]) rfl nd (w_piL K (pv 5)) (blkOk_by (by kernel_rfl)) (fun _ _ _ _ _ => (pg_name (i := 7) nd rfl (Or.inl rfl))) (fun _ _ _ _ _ => pts_nil) (fun _ _ _ _ _ => (pe_tup (pa_cons (pv 7) (pa_cons (pv 2) pa_nil)))))))
    (pss_one (ps_expr (pe_bm PySem.F.plainAttrs_list PySem.F.slot_list_append PySem.F.type_list_append mt_append (pv 4) (pa_cons (pe_op op_cat (pv 5) (pe_lst (pa_cons (pv 2) pa_nil))) pa_nil))))))))
    (pss_one (ps_ret (pv 3))))), ?_⟩
  rintro as Pd ⟨ps, hp, rfl, rfl⟩
  have hs := hp.sz
  refine svp_seqD (sv_par_in (ev_lst av_nil) (en_lst av_nil)) ?_
  refine svp_seq (svp_for (O := fun o => ∃ (ts : List Tie) (cs : List (List Str)), TiesOk ps ts ∧ o = .nx [some (.opq s), some (lS ps), none, some (.lst (ts.map tieD)), none, none, none, none] [(4, .lst (cs.map lS))]) (vs := [2, 5, 6]) (xs := ps) (enc := .str) (wv_list (ev_var rfl))
    (fun i ρ μ => ∃ (ts : List Tie) (cs : List (List Str)), Ti (ps.take i) ts ∧ ts.length ≤ 16 * i ∧ Cs (ps.take i) cs ∧ cs.length = i ∧ ρ = [some (.opq s), some (lS ps), none, some (.lst (ts.map tieD)), none, none, none, none] ∧ μ = [(4, .lst (cs.map lS))])
    ⟨[], [], ti_nil _, Nat.zero_le _, ⟨fun c hc => (nomatch hc), fun c hc => (nomatch hc), fun c hc => (nomatch hc)⟩, rfl, rfl, rfl⟩ (fun i x ρi μi hx hI => ?_) (fun ρ' μ' hI => ?_)) fun o ho => ?_
  · obtain ⟨ts, cs, h1, h2, h3, h4, rfl, rfl⟩ := hI
    have hin : i < ps.length := (List.getElem?_eq_some_iff.mp hx).1
    have clen : ∀ c ∈ cs, c.length ≤ 16 := fun c hc => Nat.le_trans (sublist_len (h3.nd c hc) fun y hy => List.mem_of_mem_take (h3.sub c hc y hy)) hs
    refine ⟨_, gv_name (by decide), fun j hj => ?_, ?_⟩
    · rcases List.mem_cons.mp hj with rfl | hj
      · rfl
      rcases List.mem_cons.mp hj with rfl | hj
      · rfl
      rw [List.mem_singleton.mp hj]; rfl
    refine svp_seqD (sv_asg (ev_lst av_nil)) ?_
    refine svp_seq (O1 := fun o => ∃ (ys : List Str) (z6 : Option D), ys.Nodup ∧ (∀ y ∈ ys, y ∈ ps.take i) ∧ o = .nx [some (.opq s), some (lS ps), some (.str x), some (.lst (ts.map tieD)), none, some (lS ys), z6, none] [(4, .lst (cs.map lS))])
      (svp_if (B := fun b => b = true → cs ≠ []) (tvp_and (k := !cs.isEmpty) (tv_test (ev_op (ev_var rfl) (ev_lst av_nil) (rd_notNil (k := 2) (xs := cs) (enc := lS) (eqk_lst fun c hc => eqk_lst fun y hy => eqk_str (hp.wd y (List.mem_of_mem_take (h3.sub c hc y hy))).ok))))
        (fun hk => tvp_test (evp_op (P1 := below 7) (P2 := fun d => d = .int 0) (pick_ev (n := 7) rfl ev_int (by decide) (by decide)) (EvD.p ev_int rfl) fun a b ⟨k, _, ea⟩ eb => ?_)) (fun _ h => by cases h)) (fun hb => ?_) fun _ => (sv_next).p ⟨[], none, .nil, fun y hy => (nomatch hy), rfl⟩) fun o ho => ?_
    · subst ea eb
      exact ⟨_, ⟨_, (fun _ e => by rw [e] at hk; cases hk), rfl⟩, rd_gt⟩
    · have hne := hb rfl
      refine svp_seq (svp_asgF (P := fun d => ∃ c' : List Str, c'.Nodup ∧ (∀ y ∈ c', y ∈ ps.take i) ∧ c' ≠ [] ∧ d = lS c') (enp_call (PL := fun ds => ∃ d r, ds = d :: r ∧ d = .opq s ∧ ∃ d2 r2, r = d2 :: r2 ∧ d2 ∈ cs.map lS ∧ r2 = []) (avp_cons (EvD.p (ev_var rfl) rfl) (avp_cons (evp_callD (av_cons (ev_var rfl) (av_cons (ev_var rfl) av_nil)) ⟨cs.map lS, by simpa using hne, by rw [List.length_map]; omega, rfl, rfl⟩) avp_nil)) fun as ⟨d, r, e1, e2, d2, r2, e3, e4, e5⟩ => ?_) fun d ⟨c', _, _, _, e⟩ => by rw [e]; exact flat_strs _) fun o ho => ?_
      · subst e5 e3 e2 e1
        obtain ⟨c0, hc0, rfl⟩ := List.mem_map.mp e4
        refine ⟨_, ⟨sS c0, by rw [List.length_map]; have := clen c0 hc0; omega, rfl, rfl⟩, fun d ⟨es, pm, e⟩ => ?_⟩
        obtain ⟨ys, p2, e2⟩ := perm_map pm c0 rfl
        exact ⟨ys, p2.nodup_iff.mpr (h3.nd c0 hc0), fun y hy => h3.sub c0 hc0 y (p2.mem_iff.mp hy), fun z => h3.ne c0 hc0 (by rw [z] at p2; exact p2.symm.eq_nil), by rw [e, e2]⟩
      · obtain ⟨d, ⟨c', c1, c2, c3, rfl⟩, rfl⟩ := ho
        have cl : c'.length ≤ 16 := Nat.le_trans (sublist_len c1 fun y hy => List.mem_of_mem_take (c2 y hy)) hs
        refine SvP.imp (svp_asgF (P := fun d => ∃ n : Nat, True ∧ d = .lst ((sS c').take n)) (enp_toL (Pn := fun _ => True) (ev_var rfl) (EvP.imp (evp_addN (m := 1) (n := c'.length) (pick_ev rfl (EvD.is (ev_cb (av_cons (ev_var rfl) av_nil) ra_len) (by rw [List.length_map])) (List.length_pos_iff.mpr c3) (by omega))) fun d ⟨k, _, e⟩ => ⟨k, trivial, e⟩)) fun d ⟨n, _, e⟩ => by rw [e, ← List.map_take]; exact flat_strs _) fun o ho => ?_
        obtain ⟨d, ⟨n, _, rfl⟩, rfl⟩ := ho
        refine ⟨c'.take n, some (lS c'), c1.sublist (List.take_sublist _ _), fun y hy => c2 y (List.mem_of_mem_take hy), ?_⟩
        rw [← List.map_take]
        rfl
    · obtain ⟨ys, z6, y1, y2, rfl⟩ := ho
      have yl : ys.length ≤ 16 := Nat.le_trans (sublist_len y1 fun y hy => List.mem_of_mem_take (y2 y hy)) hs
      refine svp_seqD (sv_asg (EvD.is (EvN.ev (en_cat (es := (ys.map fun y => (y, x)).map tieD) (ev_var rfl) (EvN.ev (ev_lcE0N (xs := ys) (enc := .str) (enc2 := tieD) (q := fun y => (y, x)) (wv_list (ev_var rfl)) (fun y hy => ⟨_, gv_name (by decide), ev_tup (av_cons (ev_var rfl) (av_cons (ev_var rfl) av_nil))⟩) (by omega))) (by simp only [List.length_map]; omega))) (by rw [← List.map_append]))) ?_
      refine (sv_app (i := 4) (e := lS (ys ++ [x])) rfl (EvD.is (EvN.ev (en_cat (es := [.str x]) (ev_var rfl) (ev_lst (av_cons (ev_var rfl) av_nil)) (by simp only [List.length_map, List.length_cons, List.length_nil]; omega))) (congrArg D.lst (sS_snoc ys x).symm)) (by rw [List.length_map]; omega)).p ⟨_, _, .inl rfl, ts ++ ys.map (fun y => (y, x)), cs ++ [ys ++ [x]], ?_, ?_, ?_, ?_, rfl, ?_⟩
      · rw [take_snoc hx]
        exact h1.add (notin_take hp.nd hx) y1 y2
      · rw [List.length_append, List.length_map]
        omega
      · rw [take_snoc hx]
        have xn := notin_take hp.nd hx
        refine ⟨fun c hc y hy => ?_, fun c hc => ?_, fun c hc => ?_⟩
        · rcases List.mem_append.mp hc with hc | hc
          · exact List.mem_append_left _ (h3.sub c hc y hy)
          · rw [List.mem_singleton.mp hc] at hy
            rcases List.mem_append.mp hy with hy | hy
            · exact List.mem_append_left _ (y2 y hy)
            · exact List.mem_append_right _ hy
        · rcases List.mem_append.mp hc with hc | hc
          · exact h3.nd c hc
          · rw [List.mem_singleton.mp hc, List.nodup_append]
            exact ⟨y1, by simp, fun a ha b hb e => by rw [List.mem_singleton.mp hb] at e; rw [e] at ha; exact xn (y2 x ha)⟩
        · rcases List.mem_append.mp hc with hc | hc
          · exact h3.ne c hc
          · rw [List.mem_singleton.mp hc]; simp
      · rw [List.length_append, h4]; rfl
      · show [(4, D.lst _)] = [(4, D.lst _)]
        rw [List.map_append]; rfl
  · obtain ⟨ts, cs, h1, h2, h3, h4, rfl, rfl⟩ := hI
    rw [List.take_of_length_le (Nat.le_refl _)] at h1
    exact ⟨ts, cs, h1.ok (by omega), rfl⟩
  · obtain ⟨ts, cs, h1, rfl⟩ := ho
    exact svp_ret (P := fun d => ∃ ts, d = .lst (ts.map tieD) ∧ TiesOk ps ts) (EvD.p (ev_var rfl) ⟨ts, rfl, h1⟩) fun d hd => ⟨d, hd, rfl⟩
end
end CW
/-! P20 -/
/-! P20: drawn worlds. -/
namespace CW
open PySem PySem.Spec PyProof.Rows L2 LamX
structure HasMk (P : Program) (w : World) (K : PySem.W.Frag) (mg : Str → Option Value) (base : Heap) (C : Addr) : Prop where
  ex : ∃ f fd, Mk K C f ∧ FnOk P w K mg base CX0 4 f fd ["self", "posts", "ties"] (spInit C) ∧ mg "Map" = some (.ref C) ∧ Binds K fd ["self", "posts", "ties"] []
section
variable {X : Cx} {C : Addr} {j : Nat} {p pos : Pos} {e : Expr} {es : List Expr} {t : TA}
theorem pe_mk (h : HasMk X.prog X.w X.K X.mg X.base C) (hr : Room j X.A) (ha : PA X (e :: es) t) (le : Nat.ble 5 j = true := by rfl) (hg : Gl X "Map" := by rfl)
    (he : starEach (e :: es) X.env = (false, eval e X.env) :: starEach es X.env := by rfl) (hpl : (backTo pos (starEach es X.env)).any (·.1) = false := by rfl) : PE X (.Call (.Name "Map" p) (e :: es) [] pos) (tMake C (spInit C) [] E0 t) := by
  obtain ⟨f, fd, M, F, m, b⟩ := h.ex
  exact pe_make M F (hr.mono (Nat.le_of_ble_eq_true le)) hg m b .nil pass0 ha (by decide) he hpl
end
section
variable {Γ : Gam} {ρ : Rho} {te to : TE} {t : TA} {P : D → Prop} {K : PySem.W.Frag}
theorem evp_call0 {R : List D → D → Prop} {E : XK} {PL : List D → Prop} (ha : AvP Γ t ρ PL) (hr : ∀ as, PL as → ∃ d, R as d ∧ P d) : EvP Γ (tCall (spF G0 R) [] E t) ρ P := fun σ S H s o Q q => ha σ S H s o _ fun vs S1 H1 as pa n h1 => by
  obtain ⟨d, r, hp⟩ := hr as pa
  exact ⟨as, d, S1, n.ok.g0, by rw [List.append_nil]; exact h1, r, fun v S2 H2 m a => q v S2 H2 d hp (n.trans (.of_g0 n.ok m)) a⟩
/-- {"posts": .., "ties": .., "map": ..} -/
theorem ev_disp3 {t1 t2 t3 : TE} {d1 d2 d3 : D} (h1 : EvD Γ t1 ρ d1) (h2 : EvD Γ t2 ρ d2) (h3 : EvD Γ t3 ρ d3) : EvN Γ (tDisp [(tC (.str "posts"), t1), (tC (.str "ties"), t2), (tC (.str "map"), t3)]) ρ (.dic [("posts", d1), ("ties", d2), ("map", d3)]) := fun σ S H s k Q q => by
  intro Dl hD
  have n0 : Nx Γ S H S (upd H Dl (.dK [])) := .hid k hD _
  have hS := k.fresh hD
  refine h1 σ S _ s n0.ok _ fun v1 S1 H1 n1 a1 => h2 σ S1 H1 (s.mono n1.ex) n1.ok _ fun v2 S2 H2 n2 a2 => h3 σ S2 H2 (s.mono (n1.ex.trans n2.ex)) n2.ok _ fun v3 S3 H3 n3 a3 => ?_
  have n13 := (n1.trans n2).trans n3
  have ne : upd H Dl (.dK []) Dl ≠ none := fun z => by rw [upd_same] at z; cases z
  have hd : H3 Dl = some (.dK []) := n13.fr Dl _ (k.nb hD) upd_same
  have hs : S3 Dl = none := (n13.old Dl ne).trans hS
  refine ⟨hd, [(Sum.inr "posts", v1), (Sum.inr "ties", v2), (Sum.inr "map", v3)], rfl, by show 3 ≤ 15; decide, ?_⟩
  exact q Dl S3 _ _ ((n0.trans n13).mut hD hs hd (fun z => z) k _) hD hs upd_same (.dK (.cons (a1.mono (n2.ex.trans n3.ex)) (.cons (a2.mono n3.ex) (.cons a3 .nil))))
theorem ev_index {xs : List Str} {x : Str} (h : EvD Γ to ρ (.lst (sS xs))) (hy : EvD Γ te ρ (.str x)) (hx : x ∈ xs) : EvD Γ (tBM K "list" (rIndex K) to (tCons te tNil)) ρ (nI (xs.idxOf x)) := fun σ S H s k Q q => h σ S H s k _ fun v S1 H1 n1 a => by
  cases a with
  | lst e al =>
    rw [al.strs] at e
    refine ⟨.inl ⟨rfl, _, .of (n1.ok.ex _ _ e)⟩, hy σ S1 H1 (s.mono n1.ex) n1.ok _ fun u S2 H2 n2 b => ?_⟩
    cases b
    have hl : xs.idxOf x < xs.length := List.idxOf_lt_length_iff.mpr hx
    refine ⟨_, xs.map V.str, .str x, xs.idxOf x, .str x, rfl, rfl, .of (n2.ok.ex _ _ (n2.ex _ _ e)), rfl, flat_sm xs, by rw [List.getElem?_map, List.getElem?_eq_getElem hl, List.getElem_idxOf hl]; rfl, by simp [eqV], fun m z hm hz => ?_, q _ S2 H2 (n1.trans n2) (.int _)⟩
    rw [List.getElem?_map] at hz
    cases e2 : xs[m]? with
    | none => rw [e2] at hz; cases hz
    | some y =>
      rw [e2] at hz
      cases hz
      show (y == x) = false
      refine beq_eq_false_iff_ne.mpr fun z => ?_
      obtain ⟨hml, em⟩ := List.getElem?_eq_some_iff.mp e2
      have := List.not_of_lt_findIdx (p := (· == x)) (xs := xs) (i := m) hm
      simp [em, z] at this
end
def rMade (C : Addr) (as : List D) (d : D) : Prop := ∃ (ps : List Str) (ts : List Tie), WOk ps ts ∧ as = [lS ps, .lst (ts.map tieD)] ∧ d = worldD C ps ts
def isW (C : Addr) (d : D) : Prop := ∃ (ps : List Str) (ts : List Tie), WOk ps ts ∧ d = worldD C ps ts
def rLMap (C s : Addr) (as : List D) (P : D → Prop) : Prop := ∃ m : Nat, 1 ≤ m ∧ m ≤ 16 ∧ as = [.opq s, nI m] ∧ P = isW C
def rLRingMap (C s : Addr) (as : List D) (P : D → Prop) : Prop := ∃ k m : Nat, 3 ≤ k ∧ k + m ≤ 16 ∧ as = [.opq s, nI k, nI m] ∧ P = isW C
def rSomeMap (C s : Addr) (as : List D) (P : D → Prop) : Prop := ∃ m : Nat, 7 ≤ m ∧ m ≤ 16 ∧ as = [.opq s, nI m] ∧ P = isW C
def isPosts (d : D) : Prop := ∃ ps, PostsOk ps ∧ d = lS ps
section
variable {P : Program} {w : World} {K : PySem.W.Frag} {mg : Str → Option Value} {base : Heap} {C : Addr} {f : Addr} {fd : FuncData} {T : List (Addr × Str)} {s c : Addr}
theorem sc__law_made : FnScope ["_law_posts", "_law_ties"] ["_law_posts", "_law_ties"] (defScope (topS 54)) := ⟨rfl, rfl, rfl, by decide +kernel, rfl, by decide +kernel, by decide +kernel⟩
theorem ok__law_made (F : FnP K "_law_made" "_law_made" (topS 54) f fd) (MK : HasMk P w K mg base C) : FnOk P w K mg base CX0 6 f fd ["_law_posts", "_law_ties"] (spF G0 (rMade C)) := by
  have nd := (sc__law_made).nd
  refine fn_ok F sc__law_made (fun as d ⟨_, _, _, e, _⟩ => by rw [e]; rfl) fun cdv A outer s' H E hr => ?_
  refine ⟨_, (pss_one (ps_ret (pe_disp (pps_cons pe_str (pv 0) (pps_cons pe_str (pv 1) (pps_cons pe_str (pe_mk MK hr (pa_cons (pv 0) (pa_cons (pv 1) pa_nil))) pps_nil))) (by rfl) (by rfl) (fun z => by cases z) (by decide)))), ?_⟩
  rintro as d ⟨ps, ts, hw, rfl, rfl⟩
  exact SvD.e <| sv_ret (EvN.ev (ev_disp3 (ev_var rfl) (ev_var rfl) (ev_make (av_cons (ev_var rfl) (av_cons (ev_var rfl) av_nil)) hw.p hw.t)))
/-- names(src, n), n drawn -/
theorem names_ev {ρ : Rho} {tn : TE} {Pn : Nat → Prop} (h0 : ρ[0]? = some (some (.opq s))) (hn : EvP (ΓS T s c) tn ρ fun d => ∃ n, Pn n ∧ d = nI n) (h16 : ∀ n, Pn n → n ≤ 16) : EvP (ΓS T s c) (tCall (spP (ΓS T s c) (rNames s)) [] E0 (tCons (tVar 0) (tCons tn tNil))) ρ (fun d => ∃ ps, PostsOk ps ∧ Pn ps.length ∧ d = lS ps) :=
  evp_call (PL := fun ds => ∃ n, Pn n ∧ ds = [.opq s, nI n]) (fun σ S H sl k Q q => avp_cons (P1 := fun d => d = .opq s) (EvD.p (ev_var h0) rfl) (avp_cons hn avp_nil) σ S H sl k Q fun vs S2 H2 ds ⟨d, r, e1, e2, d2, r2, e3, ⟨n, pn, e4⟩, e5⟩ n2 a => q vs S2 H2 ds ⟨n, pn, by rw [e1, e2, e3, e4, e5]⟩ n2 a) fun as ⟨n, pn, e⟩ => ⟨_, ⟨n, h16 n pn, e, rfl⟩, fun d ⟨ps, e1, e2, e3⟩ => ⟨ps, e2, by rw [e3]; exact pn, e1⟩⟩
/-- turned(src, ties), ties drawn -/
theorem turned_ev {ρ : Rho} {tn : TE} {ps : List Str} (h0 : ρ[0]? = some (some (.opq s))) (hn : EvP (ΓS T s c) tn ρ fun d => ∃ ts, d = .lst (ts.map tieD) ∧ TiesOk ps ts) : EvP (ΓS T s c) (tCall (spP (ΓS T s c) (rTurned s)) [] E0 (tCons (tVar 0) (tCons tn tNil))) ρ (fun d => ∃ ts, TiesOk ps ts ∧ d = .lst (ts.map tieD)) :=
  evp_call (PL := fun ds => ∃ ts, TiesOk ps ts ∧ ds = [.opq s, .lst (ts.map tieD)]) (fun σ S H sl k Q q => avp_cons (P1 := fun d => d = .opq s) (EvD.p (ev_var h0) rfl) (avp_cons hn avp_nil) σ S H sl k Q fun vs S2 H2 ds ⟨d, r, e1, e2, d2, r2, e3, ⟨ts, e4, ht⟩, e5⟩ n2 a => q vs S2 H2 ds ⟨ts, ht, by rw [e1, e2, e3, e4, e5]⟩ n2 a) fun as ⟨ts, ht, e⟩ => ⟨_, ⟨ts, ht.sz, e, rfl⟩, fun d ⟨us, hu, e1⟩ => ⟨us, hu.ok ht, e1⟩⟩
/-- mixed(src, posts) -/
theorem mixed_ev {ρ : Rho} {i : Nat} {ps : List Str} (h0 : ρ[0]? = some (some (.opq s))) (hi : ρ[i]? = some (some (lS ps))) (hz : ps.length ≤ 16) : EvP (ΓS T s c) (tCall (spNP (ΓS T s c) (rMixed s)) [] E0 (tCons (tVar 0) (tCons (tVar i) tNil))) ρ (fun d => ∃ qs : List Str, qs.Perm ps ∧ d = lS qs) :=
  EvP.imp (EnP.ev (enp_callD (av_cons (ev_var h0) (av_cons (ev_var hi) av_nil)) ⟨sS ps, by rw [List.length_map]; omega, rfl, rfl⟩)) fun d ⟨es, pm, e⟩ => by
    obtain ⟨ys, p2, e2⟩ := perm_map pm ps rfl
    exact ⟨ys, p2, by rw [e, e2]⟩
theorem made_ev {ρ : Rho} {t1 t2 : TE} {ps : List Str} (hp : PostsOk ps) (h1 : EvP (ΓS T s c) t1 ρ fun d => ∃ qs : List Str, qs.Perm ps ∧ d = lS qs) (h2 : EvP (ΓS T s c) t2 ρ fun d => ∃ ts, TiesOk ps ts ∧ d = .lst (ts.map tieD)) : EvP (ΓS T s c) (tCall (spF G0 (rMade C)) [] E0 (tCons t1 (tCons t2 tNil))) ρ (isW C) :=
  evp_call0 (avp_cons h1 (avp_cons h2 avp_nil)) fun as ⟨d, r, e1, ⟨qs, pm, e2⟩, d2, r2, e3, ⟨ts, ht, e4⟩, e5⟩ => by
    subst e1 e2 e3 e4 e5
    exact ⟨_, ⟨qs, ts, ⟨hp.perm pm, ht.perm pm⟩, rfl, rfl⟩, qs, ts, ⟨hp.perm pm, ht.perm pm⟩, rfl⟩
theorem sc__law_map : FnScope ["_law_source_here", "_law_most", "_law_posts", "_law_ties"] ["_law_source_here", "_law_most"] (defScope (topS 52)) := ⟨rfl, rfl, rfl, by decide +kernel, rfl, by decide +kernel, by decide +kernel⟩
theorem ok__law_map (F : FnP K "_law_map" "_law_map" (topS 52) f fd) (G_law_pick : Has P w K mg base "_law_pick" ["_law_source_here", "_law_many"] 1 (spP (ΓS T s c) (rPick s))) (G_law_names : Has P w K mg base "_law_names" ["_law_source_here", "_law_many"] 2 (spP (ΓS T s c) (rNames s)))
    (G_law_turned_ties : Has P w K mg base "_law_turned_ties" ["_law_source_here", "_law_ties"] 3 (spP (ΓS T s c) (rTurned s))) (G_law_good_ties : Has P w K mg base "_law_good_ties" ["_law_source_here", "_law_posts"] 3 (spP (ΓS T s c) (rTiesOf s)))
    (G_law_mixed : Has P w K mg base "_law_mixed" ["_law_source_here", "_law_things"] 2 (spNP (ΓS T s c) (rMixed s))) (G_law_made : Has P w K mg base "_law_made" ["_law_posts", "_law_ties"] 6 (spF G0 (rMade C))) : FnOk P w K mg base CX0 7 f fd ["_law_source_here", "_law_most"] (spP (ΓS T s c) (rLMap C s)) := by
  have nd := (sc__law_map).nd
  refine fn_okP F sc__law_map (fun as d ⟨_, _, _, e, _⟩ => by rw [e]; rfl) fun cdv A outer s' H E hr => ?_
  refine ⟨_, (pss_cons (ps_set (i := 2) nd rfl (Or.inl rfl) (pe_h G_law_names hr (pa_cons (pv 0) (pa_cons (pe_op op_add pe_int (pe_h G_law_pick hr (pa_cons (pv 0) (pa_cons (pv 1) pa_nil)))) pa_nil))))
    (pss_cons (ps_set (i := 3) nd rfl (Or.inl rfl) (pe_h G_law_turned_ties hr (pa_cons (pv 0) (pa_cons (pe_h G_law_good_ties hr (pa_cons (pv 0) (pa_cons (pv 2) pa_nil))) pa_nil))))
    (pss_one (ps_ret (pe_h G_law_made hr (pa_cons (pe_h G_law_mixed hr (pa_cons (pv 0) (pa_cons (pv 2) pa_nil))) (pa_cons (pv 3) pa_nil))))))), ?_⟩
  rintro as Pd ⟨m, hm1, hm2, rfl, rfl⟩
  refine svp_seq (svp_asg (names_ev rfl (evp_addN (m := 1) (n := m) (pick_ev rfl (ev_var rfl) hm1 (by omega))) fun n h => by omega)) fun o ho => ?_
  obtain ⟨d, ⟨ps, hp, _, rfl⟩, rfl⟩ := ho
  refine svp_seq (svp_asg (turned_ev (ps := ps) rfl (evp_callD (av_cons (ev_var rfl) (av_cons (ev_var rfl) av_nil)) ⟨ps, hp, rfl, rfl⟩))) fun o ho => ?_
  obtain ⟨d, ⟨ts, ht, rfl⟩, rfl⟩ := ho
  exact svp_ret (made_ev hp (mixed_ev rfl rfl hp.sz) (EvD.p (ev_var rfl) ⟨ts, ht, rfl⟩)) fun d hd => ⟨d, hd, rfl⟩
theorem sc__law_any_map : FnScope ["_law_source_here", "_law_most", "_law_posts"] ["_law_source_here", "_law_most"] (defScope (topS 53)) := ⟨rfl, rfl, rfl, by decide +kernel, rfl, by decide +kernel, by decide +kernel⟩
theorem ok__law_any_map (F : FnP K "_law_any_map" "_law_any_map" (topS 53) f fd) (G_law_pick : Has P w K mg base "_law_pick" ["_law_source_here", "_law_many"] 1 (spP (ΓS T s c) (rPick s))) (G_law_names : Has P w K mg base "_law_names" ["_law_source_here", "_law_many"] 2 (spP (ΓS T s c) (rNames s)))
    (G_law_turned_ties : Has P w K mg base "_law_turned_ties" ["_law_source_here", "_law_ties"] 3 (spP (ΓS T s c) (rTurned s))) (G_law_any_ties : Has P w K mg base "_law_any_ties" ["_law_source_here", "_law_posts", "_law_share"] 2 (spP (ΓS T s c) (rAnyTies s)))
    (G_law_made : Has P w K mg base "_law_made" ["_law_posts", "_law_ties"] 6 (spF G0 (rMade C))) : FnOk P w K mg base CX0 7 f fd ["_law_source_here", "_law_most"] (spP (ΓS T s c) (rLMap C s)) := by
  have nd := (sc__law_any_map).nd
  refine fn_okP F sc__law_any_map (fun as d ⟨_, _, _, e, _⟩ => by rw [e]; rfl) fun cdv A outer s' H E hr => ?_
  refine ⟨_, (pss_cons (ps_set (i := 2) nd rfl (Or.inl rfl) (pe_h G_law_names hr (pa_cons (pv 0) (pa_cons (pe_op op_add pe_int (pe_h G_law_pick hr (pa_cons (pv 0) (pa_cons (pv 1) pa_nil)))) pa_nil))))
    (pss_one (ps_ret (pe_h G_law_made hr (pa_cons (pv 2) (pa_cons (pe_h G_law_turned_ties hr (pa_cons (pv 0) (pa_cons (pe_h G_law_any_ties hr (pa_cons (pv 0) (pa_cons (pv 2) (pa_cons (pe_op op_add pe_int (pe_h G_law_pick hr (pa_cons (pv 0) (pa_cons pe_int pa_nil)))) pa_nil)))) pa_nil))) pa_nil)))))), ?_⟩
  rintro as Pd ⟨m, hm1, hm2, rfl, rfl⟩
  refine svp_seq (svp_asg (names_ev rfl (evp_addN (m := 1) (n := m) (pick_ev rfl (ev_var rfl) hm1 (by omega))) fun n h => by omega)) fun o ho => ?_
  obtain ⟨d, ⟨ps, hp, _, rfl⟩, rfl⟩ := ho
  refine svp_ret (made_ev hp (EvD.p (ev_var rfl) ⟨ps, .refl _, rfl⟩) (turned_ev (ps := ps) rfl (evp_call (PL := fun ds => ∃ m : Nat, (1 ≤ m ∧ m ≤ 1000) ∧ ds = [.opq s, lS ps, nI m]) ?_ fun as ⟨m, hm, e⟩ => ⟨_, ⟨ps, m, hp, hm.1, hm.2, e, rfl⟩, fun d h => h⟩))) fun d hd => ⟨d, hd, rfl⟩
  exact fun σ S H sl k Q q => avp_cons (P1 := fun d => d = .opq s) (EvD.p (ev_var rfl) rfl) (avp_cons (P1 := fun d => d = lS ps) (EvD.p (ev_var rfl) rfl) (avp_cons (evp_addN (m := 2) (n := 2) (pick_ev rfl ev_int (by decide) (by decide))) avp_nil)) σ S H sl k Q fun vs S2 H2 ds ⟨d, r, e1, e2, d2, r2, e3, e4, d3, r3, e5, ⟨n, pn, e6⟩, e7⟩ n2 a => q vs S2 H2 ds ⟨n, ⟨by omega, by omega⟩, by rw [e1, e2, e3, e4, e5, e6, e7]⟩ n2 a
theorem sc__law_ring_map : FnScope ["_law_source_here", "_law_k", "_law_more", "_law_posts", "_law_ties", "_law_post", "_law_n", "_law_other"] ["_law_source_here", "_law_k", "_law_more"] (defScope (topS 55)) := ⟨rfl, rfl, rfl, by decide +kernel, rfl, by decide +kernel, by decide +kernel⟩
theorem idx_at {ps : List Str} (hn : ps.Nodup) {i : Nat} {x : Str} (h : ps[i]? = some x) : ps.idxOf x = i := by
  obtain ⟨hi, e⟩ := List.getElem?_eq_some_iff.mp h
  have hl : ps.idxOf x < ps.length := List.idxOf_lt_length_iff.mpr (List.mem_of_getElem? h)
  exact (List.getElem_inj hn).mp ((List.getElem_idxOf hl).trans e.symm)
theorem ok__law_ring_map (Tk : Kx K mg C) (F : FnP K "_law_ring_map" "_law_ring_map" (topS 55) f fd) (G_law_pick : Has P w K mg base "_law_pick" ["_law_source_here", "_law_many"] 1 (spP (ΓS T s c) (rPick s))) (G_law_names : Has P w K mg base "_law_names" ["_law_source_here", "_law_many"] 2 (spP (ΓS T s c) (rNames s)))
    (G_law_turned_ties : Has P w K mg base "_law_turned_ties" ["_law_source_here", "_law_ties"] 3 (spP (ΓS T s c) (rTurned s))) (G_law_mixed : Has P w K mg base "_law_mixed" ["_law_source_here", "_law_things"] 2 (spNP (ΓS T s c) (rMixed s)))
    (G_law_made : Has P w K mg base "_law_made" ["_law_posts", "_law_ties"] 6 (spF G0 (rMade C))) : FnOk P w K mg base CX0 7 f fd ["_law_source_here", "_law_k", "_law_more"] (spP (ΓS T s c) (rLRingMap C s)) := by
  have nd := (sc__law_ring_map).nd
  have B := Tk.b
  refine fn_okP F sc__law_ring_map (fun as d ⟨_, _, _, _, e, _⟩ => by rw [e]; rfl) fun cdv A outer s' H E hr => ?_
  refine ⟨_, (pss_cons (ps_set (i := 3) nd rfl (Or.inr rfl) (pe_h G_law_names hr (pa_cons (pv 0) (pa_cons (pe_op op_add (pv 1) (pv 2)) pa_nil))))
    (pss_cons (ps_setLc (i := 4) (own := [("_law_n", 6)]) rfl nd rfl rfl (sw_true rfl rfl rfl (by decide +kernel)) (pi_range1 rfl B.range (pa_cons (pv 1) pa_nil)) (blkOk_by (by kernel_rfl)) (fun _ _ _ _ _ => (pg_name (i := 6) nd rfl (Or.inl rfl))) (fun _ _ _ _ _ => pts_nil) (fun _ _ _ _ _ => (pe_tup (pa_cons (pe_ix (w_ixL K) (pv 3) (pv 6) (fun _ _ => rfl)) (pa_cons (pe_ix (w_ixL K) (pv 3) (pe_op op_modN (pe_callTy call_int1 (by rfl) B.int (by decide +kernel) (pa_cons (pe_op op_add (pv 6) pe_int) pa_nil)) (pv 1)) (fun _ _ => rfl)) pa_nil)))))
    (pss_cons (ps_for PassesOwn.never rfl (w_piL K (pe_slice (w_slL K) (pv 3) (po_some (pv 1)) po_none)) (pg_name (i := 5) nd rfl (Or.inr rfl))
    (pss_one (ps_set (i := 4) nd rfl (Or.inl rfl) (pe_op op_cat (pv 4) (pe_lc (own := [("_law_other", 7)]) rfl nd (w_piL K (pe_slice (w_slL K) (pv 3) po_none (po_some (pe_bm PySem.F.plainAttrs_list PySem.F.slot_list_index PySem.F.type_list_index mt_index (pv 3) (pa_cons (pv 5) pa_nil))))) (blkOk_by (by kernel_rfl)) (fun _ _ _ _ _ => (pg_name (i := 7) nd rfl (Or.inl rfl))) (fun _ _ _ _ _ => pts_one (pt_cmpR op_eq (pe_h G_law_pick hr (pa_cons (pv 0) (pa_cons pe_int pa_nil))) pe_int (nomark _))) (fun _ _ _ _ _ => (pe_tup (pa_cons (pv 7) (pa_cons (pv 5) pa_nil)))))))))
    (pss_one (ps_ret (pe_h G_law_made hr (pa_cons (pe_h G_law_mixed hr (pa_cons (pv 0) (pa_cons (pv 3) pa_nil))) (pa_cons (pe_h G_law_turned_ties hr (pa_cons (pv 0) (pa_cons (pv 4) pa_nil))) pa_nil)))))))), ?_⟩
  rintro as Pd ⟨k, m, hk, hkm, rfl, rfl⟩
  refine svp_seq (svp_asg (names_ev (Pn := fun n => n = k + m) rfl (EvD.p (ev_op (ev_var rfl) (ev_var rfl) rd_add) ⟨k + m, rfl, by show D.int ((k : Int) + (m : Int)) = D.int ((k + m : Nat) : Int); rw [Int.natCast_add]⟩) fun n h => by omega)) fun o ho => ?_
  obtain ⟨d, ⟨ps, hp, hl, rfl⟩, rfl⟩ := ho
  have md : ∀ n, (n + 1) % k < k := fun n => Nat.mod_lt _ (by omega)
  refine svp_seqD (sv_asg (d := .lst ((ringTies ps k).map tieD)) (EvN.ev (ev_lcE0N (xs := List.range k) (enc := nI) (enc2 := tieD) (q := fun n => (ps.getD n Str.empty, ps.getD ((n + 1) % k) Str.empty)) (wv_rng1 (n := k) (av_cons (ev_var rfl) av_nil) (by omega)) (fun n hn => ⟨_, gv_name (by decide), ev_tup (av_cons (ev_op (ev_var rfl) (ev_var rfl) (rd_ixL (n := n) rfl (getD_map ps .str n Str.empty (by have := List.mem_range.mp hn; omega))))
    (av_cons (ev_op (ev_var rfl) (ev_op (ev_cb (av_cons (ev_op (ev_var rfl) ev_int rd_add) av_nil) ra_int1) (ev_var rfl) (rd_modN (by omega))) (rd_ixL (n := (n + 1) % k) (by rw [Int.fmod_eq_emod_of_nonneg _ (by omega), Int.natCast_emod, Int.natCast_add]; rfl) (getD_map ps .str _ Str.empty (by have := md n; omega)))) av_nil))⟩) (by rw [List.length_range]; omega)))) ?_
  have rl : (ringTies ps k).length = k := by unfold ringTies; rw [List.length_map, List.length_range]
  refine svp_seq (svp_for (O := fun o => ∃ ts, TiesOk ps ts ∧ o = .nx [some (.opq s), some (nI k), some (nI m), some (lS ps), some (.lst (ts.map tieD)), none, none, none] []) (vs := [5]) (xs := ps.drop k) (enc := .str) (wv_list (EvD.is (EvN.ev (ev_fromL (n := k) (ev_var rfl) (pv_some (ev_var rfl)) rfl)) (by rw [List.map_drop])))
    (fun i ρ μ => ∃ ts, Ti (ps.take (k + i)) ts ∧ ts.length ≤ 16 + 16 * i ∧ ρ = [some (.opq s), some (nI k), some (nI m), some (lS ps), some (.lst (ts.map tieD)), none, none, none] ∧ μ = []) ⟨ringTies ps k, ring_ti hp.nd hk (by omega), by omega, rfl, rfl⟩ (fun i x ρi μi hx hI => ?_) (fun ρ' μ' hI => ?_)) fun o ho => ?_
  · obtain ⟨ts, h1, h2, rfl, rfl⟩ := hI
    rw [List.getElem?_drop] at hx
    have hin : k + i < ps.length := (List.getElem?_eq_some_iff.mp hx).1
    have hix := idx_at hp.nd hx
    refine ⟨_, gv_name (by decide), fun j hj => rfl, ?_⟩
    refine SvP.imp (svp_asg (P := fun d => ∃ ys : List Str, ys.Sublist (ps.take (k + i)) ∧ d = .lst ((ts ++ ys.map fun y => (y, x)).map tieD)) (evp_op (P1 := fun d => d = .lst (ts.map tieD)) (EvD.p (ev_var rfl) rfl)
      (EnP.ev (enp_lcS (xs := ps.take (k + i)) (enc := .str) (enc2 := tieD) (h := fun y => (y, x)) (wv_list (EvD.is (EvN.ev (ev_toL (n := k + i) (ev_var rfl) (pv_some (EvD.is (ev_index (xs := ps) (x := x) (ev_var rfl) (ev_var rfl) (List.mem_of_getElem? hx)) (by rw [hix]))) rfl)) (by rw [List.map_take]))) (by rw [List.length_take]; omega) fun y hy => ⟨_, gv_name (by decide), evp_eq0 (pick_ev (n := 3) rfl ev_int (by decide) (by decide)) (fun d ⟨k, _, e⟩ => ⟨_, e⟩), ev_tup (av_cons (ev_var rfl) (av_cons (ev_var rfl) av_nil))⟩)) fun a b ea ⟨ys, hys, eb⟩ => ?_)) fun o ho => ?_
    · subst ea eb
      have l1 := hys.length_le
      rw [List.length_take] at l1
      refine ⟨_, ⟨ys, hys, rfl⟩, ?_⟩
      rw [List.map_append]
      exact rd_cat (by simp only [List.length_map]; omega)
    · obtain ⟨d, ⟨ys, hys, rfl⟩, rfl⟩ := ho
      refine ⟨_, _, .inl rfl, ts ++ ys.map (fun y => (y, x)), ?_, ?_, rfl, rfl⟩
      · rw [← Nat.add_assoc, take_snoc hx]
        exact h1.add (notin_take hp.nd hx) ((hp.nd.sublist (List.take_sublist _ _)).sublist hys) fun y hy => hys.subset hy
      · rw [List.length_append, List.length_map]
        have l1 := hys.length_le
        rw [List.length_take] at l1
        omega
  · obtain ⟨ts, h1, h2, rfl, rfl⟩ := hI
    rw [List.length_drop] at h1 h2
    rw [List.take_of_length_le (by omega)] at h1
    exact ⟨ts, h1.ok (by omega), rfl⟩
  · obtain ⟨ts, ht, rfl⟩ := ho
    exact svp_ret (made_ev hp (mixed_ev rfl rfl hp.sz) (turned_ev (ps := ps) rfl (EvD.p (ev_var rfl) ⟨ts, rfl, ht⟩))) fun d hd => ⟨d, hd, rfl⟩
theorem wok_nil : WOk [] [] := ⟨⟨.nil, Nat.zero_le _, fun p hp => (nomatch hp)⟩, ⟨fun t ht => (nomatch ht), .nil, Nat.zero_le _⟩⟩
theorem sc__law_some_map : FnScope ["_law_source_here", "_law_most", "_law_way", "_law_k"] ["_law_source_here", "_law_most"] (defScope (topS 59)) := ⟨rfl, rfl, rfl, by decide +kernel, rfl, by decide +kernel, by decide +kernel⟩
theorem ok__law_some_map (Tk : Kx K mg C) (F : FnP K "_law_some_map" "_law_some_map" (topS 59) f fd) (G_law_pick : Has P w K mg base "_law_pick" ["_law_source_here", "_law_many"] 1 (spP (ΓS T s c) (rPick s))) (G_law_map : Has P w K mg base "_law_map" ["_law_source_here", "_law_most"] 7 (spP (ΓS T s c) (rLMap C s)))
    (G_law_any_map : Has P w K mg base "_law_any_map" ["_law_source_here", "_law_most"] 7 (spP (ΓS T s c) (rLMap C s))) (G_law_ring_map : Has P w K mg base "_law_ring_map" ["_law_source_here", "_law_k", "_law_more"] 7 (spP (ΓS T s c) (rLRingMap C s)))
    (G_law_made : Has P w K mg base "_law_made" ["_law_posts", "_law_ties"] 6 (spF G0 (rMade C))) : FnOk P w K mg base CX0 8 f fd ["_law_source_here", "_law_most"] (spP (ΓS T s c) (rSomeMap C s)) := by
  have nd := (sc__law_some_map).nd
  have B := Tk.b
  refine fn_okP F sc__law_some_map (fun as d ⟨_, _, _, e, _⟩ => by rw [e]; rfl) fun cdv A outer s' H E hr => ?_
  refine ⟨_, (pss_cons (ps_set (i := 2) nd rfl (Or.inl rfl) (pe_h G_law_pick hr (pa_cons (pv 0) (pa_cons pe_int pa_nil))))
    (pss_cons (ps_if (pt_cmpR op_lt (pv 2) pe_int (nomark _)) (pss_one (ps_ret (pe_h G_law_map hr (pa_cons (pv 0) (pa_cons (pv 1) pa_nil))))) pss_nil)
    (pss_cons (ps_if (pt_cmpR op_lt (pv 2) pe_int (nomark _)) (pss_one (ps_ret (pe_h G_law_any_map hr (pa_cons (pv 0) (pa_cons (pv 1) pa_nil))))) pss_nil)
    (pss_cons (ps_set (i := 3) nd rfl (Or.inl rfl) (pe_op op_add pe_int (pe_h G_law_pick hr (pa_cons (pv 0) (pa_cons (pe_callB (call_max2 rfl) (by rfl) B.max (by decide +kernel) (pa_cons pe_int (pa_cons (pe_op op_sub (pv 1) pe_int) pa_nil))) pa_nil)))))
    (pss_one (ps_ret (pe_ifExp (PW.pt (pw_and (pt_cmpR op_eq (pv 2) pe_int (nomark _)) (pw_and1 (pt_cmpR op_gt (pv 1) pe_int (nomark _))))) (pe_h G_law_ring_map hr (pa_cons (pv 0) (pa_cons (pv 3) (pa_cons (pe_h G_law_pick hr (pa_cons (pv 0) (pa_cons (pe_callB (call_max2 rfl) (by rfl) B.max (by decide +kernel) (pa_cons pe_int (pa_cons (pe_op op_sub (pe_op op_add (pv 1) pe_int) (pv 3)) pa_nil))) pa_nil))) pa_nil)))) (pe_h G_law_made hr (pa_cons (pe_lst pa_nil) (pa_cons (pe_lst pa_nil) pa_nil)))))))))), ?_⟩
  rintro as Pd ⟨m, hm1, hm2, rfl, rfl⟩
  have emax : ∀ a : Nat, 1 ≤ a → (if (a : Int) > 1 then (a : Int) else 1) = (a : Int) := fun a ha => by split <;> omega
  refine svp_seq (svp_asg (pick_ev (n := 7) rfl ev_int (by decide) (by decide))) fun o ho => ?_
  obtain ⟨d, ⟨wy, hw, rfl⟩, rfl⟩ := ho
  refine svp_seq (O1 := fun o => (∃ d, isW C d ∧ o = .rt d) ∨ o = .nx [some (.opq s), some (nI m), some (nI wy), none] []) (svp_if (B := fun _ => True) ((tv_test (ev_op (ev_var rfl) ev_int rd_lt)).p trivial) (fun _ => svp_ret (evp_callD (av_cons (ev_var rfl) (av_cons (ev_var rfl) av_nil)) ⟨m, by omega, hm2, rfl, rfl⟩) fun d hd => .inl ⟨d, hd, rfl⟩) fun _ => (sv_next).p (.inr rfl)) fun o ho => ?_
  rcases ho with ⟨d, hd, rfl⟩ | rfl
  · exact ⟨d, hd, rfl⟩
  refine svp_seq (O1 := fun o => (∃ d, isW C d ∧ o = .rt d) ∨ o = .nx [some (.opq s), some (nI m), some (nI wy), none] []) (svp_if (B := fun _ => True) ((tv_test (ev_op (ev_var rfl) ev_int rd_lt)).p trivial) (fun _ => svp_ret (evp_callD (av_cons (ev_var rfl) (av_cons (ev_var rfl) av_nil)) ⟨m, by omega, hm2, rfl, rfl⟩) fun d hd => .inl ⟨d, hd, rfl⟩) fun _ => (sv_next).p (.inr rfl)) fun o ho => ?_
  rcases ho with ⟨d, hd, rfl⟩ | rfl
  · exact ⟨d, hd, rfl⟩
  refine svp_seq (svp_asg (evp_addN (m := 4) (n := m - 3) (pick_ev (n := m - 3) rfl (EvD.is (ev_cb (av_cons ev_int (av_cons (EvD.is (ev_op (ev_var rfl) ev_int rd_sub) (show D.int ((m : Int) - 3) = nI (m - 3) by show D.int _ = D.int _; congr 1; omega)) av_nil)) ra_max2) (congrArg D.int (emax (m - 3) (by omega)))) (by omega) (by omega)))) fun o ho => ?_
  obtain ⟨d, ⟨k, ⟨hk1, hk2⟩, rfl⟩, rfl⟩ := ho
  refine svp_ret (P := isW C) (evp_if (b := decide ((wy : Int) = 5) && decide ((3 : Int) < m)) (tv_and (tv_test (ev_op (ev_var rfl) ev_int rd_eqI)) fun _ => tv_test (ev_op (ev_var rfl) ev_int rd_gt)) (fun _ => ?_) fun _ => EvD.p (ev_call0 (av_cons (ev_lst av_nil) (av_cons (ev_lst av_nil) av_nil)) ⟨[], [], wok_nil, rfl, rfl⟩) ⟨[], [], wok_nil, rfl⟩) fun d hd => ⟨d, hd, rfl⟩
  refine evp_call (PL := fun ds => ∃ j : Nat, j < m + 1 - k ∧ ds = [.opq s, nI k, nI j]) ?_ fun as ⟨j, hj, e⟩ => ⟨_, ⟨k, j, by omega, by omega, e, rfl⟩, fun d h => h⟩
  exact fun σ S H sl kk Q q => avp_cons (P1 := fun d => d = .opq s) (EvD.p (ev_var rfl) rfl) (avp_cons (P1 := fun d => d = nI k) (EvD.p (ev_var rfl) rfl) (avp_cons (pick_ev (n := m + 1 - k) rfl (EvD.is (ev_cb (av_cons ev_int (av_cons (EvD.is (ev_op (ev_op (ev_var rfl) ev_int rd_add) (ev_var rfl) rd_sub) (show D.int ((m : Int) + 1 - (k : Int)) = nI (m + 1 - k) by show D.int _ = D.int _; congr 1; omega)) av_nil)) ra_max2) (congrArg D.int (emax (m + 1 - k) (by omega)))) (by omega) (by omega)) avp_nil)) σ S H sl kk Q fun vs S2 H2 ds ⟨d, r, e1, e2, d2, r2, e3, e4, d3, r3, e5, ⟨n, pn, e6⟩, e7⟩ n2 a => q vs S2 H2 ds ⟨n, pn, by rw [e1, e2, e3, e4, e5, e6, e7]⟩ n2 a
end
end CW
/-! M5 -/
/-! M5: the crowds, three ways. -/
namespace CT
variable {α : Type} [DecidableEq α]
section
variable {ps : List α} {n : α → α → Bool}
theorem mem_ord {xs : List α} {y : α} : y ∈ ord ps xs ↔ y ∈ ps ∧ y ∈ xs := by
  unfold ord; simp
/-- what a peeling is: each post's later near ones are near each other -/
def Peo (n : α → α → Bool) (p : List α) : Prop := ∀ (i : Nat) x, p[i]? = some x → ∀ a ∈ p.drop (i + 1), ∀ b ∈ p.drop (i + 1), n x a = true → n x b = true → n a b = true
/-- a crowd: a clique, in the posts' order, not empty, none more is near all -/
structure Mx (ps : List α) (n : α → α → Bool) (c : List α) : Prop where
  od : ord ps c = c
  ne : c ≠ []
  cl : ∀ a ∈ c, ∀ b ∈ c, n a b = true
  mx : ∀ x ∈ ps, (∀ a ∈ c, n x a = true) → x ∈ c
theorem isCrowd_iff {c : List α} : isCrowd ps n c = true ↔ c ≠ [] ∧ (∀ a ∈ c, ∀ b ∈ c, n a b = true) ∧ ∀ x ∈ ps, (∀ a ∈ c, n x a = true) → x ∈ c := by
  unfold isCrowd
  rw [Bool.and_eq_true, Bool.and_eq_true, areNear_iff]
  constructor
  · rintro ⟨⟨h1, h2⟩, h3⟩
    refine ⟨fun e => (by rw [e] at h1; cases h1), h2, fun x hx h => ?_⟩
    by_cases hc : x ∈ c
    · exact hc
    · exfalso
      have : ((ps.filter fun y => !decide (y ∈ c)).any fun p => c.all fun q => n p q) = true := List.any_eq_true.mpr ⟨x, List.mem_filter.mpr ⟨hx, by simpa using hc⟩, List.all_eq_true.mpr h⟩
      rw [this] at h3; cases h3
  · rintro ⟨h1, h2, h3⟩
    refine ⟨⟨?_, h2⟩, ?_⟩
    · cases c with
      | nil => exact absurd rfl h1
      | cons a c => rfl
    rw [Bool.not_eq_true', List.any_eq_false]
    intro x hx h
    have := List.mem_filter.mp hx
    have hc := h3 x this.1 (List.all_eq_true.mp h)
    simp [hc] at this
theorem ord_idem {c : List α} : ord ps (ord ps c) = ord ps c := by
  unfold ord
  refine List.filter_congr fun y hy => ?_
  simp only [List.mem_filter, hy, true_and, decide_eq_true_eq]
theorem ord_ext {c d : List α} (h : ∀ x, x ∈ c ↔ x ∈ d) : ord ps c = ord ps d := by
  unfold ord
  exact List.filter_congr fun y _ => decide_eq_decide.mpr (h y)
/-- the program's crowds are the crowds -/
theorem mem_raw {p : List α} (hp : p.Perm ps) (hn : ps.Nodup) (rf : ∀ x, n x x = true) (sy : ∀ x y, n x y = n y x) (pe : Peo n p) {c : List α} : c ∈ crowdsRaw ps n p ↔ Mx ps n c := by
  unfold crowdsRaw
  rw [List.mem_filter, isCrowd_iff]
  constructor
  · rintro ⟨h1, h2, h3, h4⟩
    obtain ⟨q, _, rfl⟩ := List.mem_map.mp h1
    exact ⟨ord_idem, h2, h3, h4⟩
  · intro h
    refine ⟨?_, h.ne, h.cl, h.mx⟩
    -- the first of c in p
    have hsub : ∀ x ∈ c, x ∈ p := fun x hx => hp.mem_iff.mpr (mem_ord.mp (h.od.symm ▸ hx)).1
    have ex : ∃ (i : Nat) (x : α), p[i]? = some x ∧ x ∈ c ∧ ∀ (j : Nat) (y : α), j < i → p[j]? = some y → y ∉ c := by
      rcases least (fun i => ∃ x, p[i]? = some x ∧ x ∈ c) p.length with z | ⟨k, _, k2, x, k3, k4⟩
      · exfalso
        cases hc : c with
        | nil => exact h.ne hc
        | cons y r =>
          obtain ⟨j, hj, e⟩ := List.getElem_of_mem (hsub y (by rw [hc]; exact List.mem_cons_self))
          exact z j hj ⟨y, by rw [List.getElem?_eq_getElem hj, e], by rw [hc]; exact List.mem_cons_self⟩
      · exact ⟨k, x, k3, k4, fun j y hj hy hc => k2 j hj ⟨y, hy, hc⟩⟩
    obtain ⟨i, x, hi, hxc, hfirst⟩ := ex
    have pn : p.Nodup := hp.nodup_iff.mpr hn
    have later : ∀ y ∈ c, y ≠ x → y ∈ p.drop (i + 1) := fun y hy hne => by
      obtain ⟨j, hj, rfl⟩ := List.getElem_of_mem (hsub y hy)
      have hji : ¬ j < i := fun z => hfirst j _ z (List.getElem?_eq_getElem hj) hy
      have hne2 : j ≠ i := fun z => hne (by subst z; rw [List.getElem?_eq_getElem hj] at hi; exact Option.some.inj hi)
      rw [List.mem_drop_iff_getElem]
      refine ⟨j - (i + 1), by omega, ?_⟩
      congr 1
      omega
    refine List.mem_map.mpr ⟨(x, leftNear ps n x (p.drop (i + 1))), ?_, ?_⟩
    · unfold laterNear
      refine List.mem_map.mpr ⟨(x, i), ?_, rfl⟩
      rw [List.mem_iff_getElem?]
      exact ⟨i, by rw [List.getElem?_zipIdx, hi]; simp⟩
    · rw [← h.od]
      refine (ord_ext fun y => ?_)
      constructor
      · intro hy
        have near : ∀ a ∈ c, n y a = true := fun a ha => by
          rcases List.mem_cons.mp hy with rfl | hy
          · exact h.cl _ hxc a ha
          · have my := left_mem.mp hy
            by_cases e : a = x
            · subst e; rw [sy]; exact my.2.1
            · exact pe i x hi y my.2.2.2 a (later a ha e) my.2.1 (h.cl x hxc a ha)
        refine h.mx y ?_ near
        rcases List.mem_cons.mp hy with rfl | hy
        · exact (mem_ord.mp (h.od.symm ▸ hxc)).1
        · exact (left_mem.mp hy).1
      · intro hy
        by_cases e : y = x
        · rw [e]; exact List.mem_cons_self
        · exact List.mem_cons_of_mem _ (left_mem.mpr ⟨(mem_ord.mp (h.od.symm ▸ hy)).1, h.cl x hxc y hy, e, later y hy e⟩)
theorem peel_pre {k : Nat} (h : ∀ i, i < k → free ps n (peelIt ps n i).2 ≠ []) : ∀ i, i ≤ k → (peelIt ps n k).1.take i = (peelIt ps n i).1 := by
  induction k with
  | zero => intro i hi; rw [Nat.le_zero.mp hi]; rfl
  | succ k ih =>
    intro i hi
    have h' := fun j (hj : j < k) => h j (Nat.lt_succ_of_lt hj)
    by_cases e : i = k + 1
    · subst e
      exact List.take_of_length_le (by rw [(peelIt_len h).2]; exact Nat.le_refl _)
    · cases hf : free ps n (peelIt ps n k).2 with
      | nil => exact absurd hf (h k (Nat.lt_succ_self k))
      | cons x r =>
        have e1 : peelIt ps n (k + 1) = ((peelIt ps n k).1 ++ [x], (peelIt ps n k).2.erase x) := peelStep_some hf
        rw [e1]
        show ((peelIt ps n k).1 ++ [x]).take i = _
        rw [List.take_append_of_le_length (by rw [(peelIt_len h').2]; omega)]
        exact ih h' i (by omega)
theorem peeling_ok {p : List α} (hn : ps.Nodup) (h : peelingOf ps n = some p) : p.Perm ps ∧ Peo n p := by
  obtain ⟨kk, hkk, hne, hend, hpe⟩ := peel_kk (ps := ps) (n := n)
  unfold peelingOf at h
  rw [hpe] at h
  split at h
  · rename_i e
    cases h
    have inv := peelIt_inv (n := n) hn
    have pp : (peelIt ps n kk).1.Perm ps := by have := (inv kk).1; rw [e, List.append_nil] at this; exact this
    refine ⟨pp, fun i x hx a ha b hb hxa hxb => ?_⟩
    have len := (peelIt_len hne).2
    have hi : i < kk := by rw [← len]; exact (List.getElem?_eq_some_iff.mp hx).1
    have pre := peel_pre hne i (Nat.le_of_lt hi)
    have dr : ((peelIt ps n kk).1.drop i).Perm (peelIt ps n i).2 := by
      have h1 : ((peelIt ps n i).1 ++ (peelIt ps n kk).1.drop i).Perm ((peelIt ps n i).1 ++ (peelIt ps n i).2) := by
        rw [← pre, List.take_append_drop]
        rw [pre]
        exact pp.trans (inv i).1.symm
      exact (List.perm_append_left_iff _).mp h1
    have sub : ∀ z ∈ (peelIt ps n kk).1.drop (i + 1), z ∈ (peelIt ps n i).2 := fun z hz => dr.mem_iff.mp (by
      rw [← List.drop_drop] at hz
      exact List.mem_of_mem_drop hz)
    cases hf : free ps n (peelIt ps n i).2 with
    | nil => exact absurd hf (hne i hi)
    | cons y r =>
      have e1 : peelIt ps n (i + 1) = ((peelIt ps n i).1 ++ [y], (peelIt ps n i).2.erase y) := peelStep_some hf
      have exy : y = x := by
        have p2 := peel_pre hne (i + 1) hi
        rw [e1] at p2
        have : (peelIt ps n kk).1[i]? = some y := by
          have h3 : ((peelIt ps n kk).1.take (i + 1))[i]? = some y := by
            rw [p2]
            show ((peelIt ps n i).1 ++ [y])[i]? = some y
            have li := (peelIt_len fun j hj => hne j (Nat.lt_trans hj hi)).2
            rw [List.getElem?_append_right (by omega), li]; simp
          rw [List.getElem?_take_of_lt (by omega)] at h3
          exact h3
        rw [this] at hx
        exact Option.some.inj hx
      subst exy
      have fr := (free_mem (ps := ps) (n := n) (left := (peelIt ps n i).2) (x := y) (by rw [hf]; exact List.mem_cons_self)).2
      rw [areNear_iff] at fr
      have pnd : (peelIt ps n kk).1.Nodup := pp.nodup_iff.mpr hn
      have ney : ∀ z ∈ (peelIt ps n kk).1.drop (i + 1), z ≠ y := fun z hz e2 => by
        subst e2
        obtain ⟨j, hj, e3⟩ := List.mem_drop_iff_getElem.mp hz
        obtain ⟨hi2, e4⟩ := List.getElem?_eq_some_iff.mp hx
        have := (List.getElem_inj pnd).mp (e3.trans e4.symm)
        omega
      have inps : ∀ z ∈ (peelIt ps n kk).1.drop (i + 1), z ∈ ps := fun z hz => pp.mem_iff.mp (List.mem_of_mem_drop hz)
      exact fr a (left_mem.mpr ⟨inps a ha, hxa, ney a ha, sub a ha⟩) b (left_mem.mpr ⟨inps b hb, hxb, ney b hb, sub b hb⟩)
  · cases h
theorem raw_nodup {p : List α} (hp : p.Perm ps) (hn : ps.Nodup) : (crowdsRaw ps n p).Nodup := by
  unfold crowdsRaw
  refine List.Pairwise.sublist List.filter_sublist ?_
  have pn : p.Nodup := hp.nodup_iff.mpr hn
  refine List.pairwise_iff_getElem.mpr fun i j hi hj hij e => ?_
  have li : i < p.length := by rw [List.length_map] at hi; unfold laterNear at hi; rw [List.length_map, List.length_zipIdx] at hi; exact hi
  have lj : j < p.length := by rw [List.length_map] at hj; unfold laterNear at hj; rw [List.length_map, List.length_zipIdx] at hj; exact hj
  have gi : ((laterNear ps n p).map fun q => ord ps (q.1 :: q.2))[i] = ord ps (p[i] :: leftNear ps n p[i] (p.drop (i + 1))) := by simp [laterNear]
  have gj : ((laterNear ps n p).map fun q => ord ps (q.1 :: q.2))[j] = ord ps (p[j] :: leftNear ps n p[j] (p.drop (j + 1))) := by simp [laterNear]
  rw [gi, gj] at e
  have h1 : p[i] ∈ ord ps (p[i] :: leftNear ps n p[i] (p.drop (i + 1))) := mem_ord.mpr ⟨hp.mem_iff.mp (List.getElem_mem li), List.mem_cons_self⟩
  rw [e] at h1
  rcases List.mem_cons.mp (mem_ord.mp h1).2 with z | z
  · have := (List.getElem_inj pn).mp z; omega
  · obtain ⟨m, hm, e2⟩ := List.mem_drop_iff_getElem.mp (left_mem.mp z).2.2.2
    have := (List.getElem_inj pn).mp e2; omega
end
/-! ### sorting by rows of numbers -/
section
variable {β : Type}
abbrev leK (key : β → List Int) : β → β → Bool := fun a b => decide (key a ≤ key b)
theorem leK_trans (key : β → List Int) (a b c : β) (h1 : leK key a b = true) (h2 : leK key b c = true) : leK key a c = true := decide_eq_true (List.le_trans (of_decide_eq_true h1) (of_decide_eq_true h2))
theorem leK_total (key : β → List Int) (a b : β) : (leK key a b || leK key b a) = true := by
  rw [Bool.or_eq_true]
  exact (List.le_total (key a) (key b)).imp decide_eq_true decide_eq_true
theorem sort_unique (key : β → List Int) {l1 l2 : List β} (h : l1.Perm l2) (inj : ∀ x ∈ l1, ∀ y ∈ l2, key x = key y → x = y) : l1.mergeSort (leK key) = l2.mergeSort (leK key) := by
  refine List.Perm.eq_of_pairwise (le := fun a b => leK key a b = true) (fun a b ha hb h1 h2 => ?_) (List.pairwise_mergeSort (leK_trans key) (leK_total key) l1) (List.pairwise_mergeSort (leK_trans key) (leK_total key) l2) (((List.mergeSort_perm l1 _).trans h).trans (List.mergeSort_perm l2 _).symm)
  exact inj a (List.mem_mergeSort.mp ha) b (List.mem_mergeSort.mp hb) (List.le_antisymm (of_decide_eq_true h1) (of_decide_eq_true h2))
theorem sort_map (key : β → List Int) (l : List β) : (l.map key).mergeSort (leK id) = (l.mergeSort (leK key)).map key := by
  refine List.Perm.eq_of_pairwise (le := fun a b => leK id a b = true) (fun a b ha hb h1 h2 => List.le_antisymm (of_decide_eq_true h1) (of_decide_eq_true h2)) (List.pairwise_mergeSort (leK_trans id) (leK_total id) _) ?_ ((List.mergeSort_perm _ _).trans ((List.mergeSort_perm l _).symm.map key))
  exact List.Pairwise.map key (fun a b h => h) (List.pairwise_mergeSort (leK_trans key) (leK_total key) l)
end
section
variable {ps : List α} {n : α → α → Bool}
theorem posI_inj {c d : List α} (hc : ∀ x ∈ c, x ∈ ps) (hd : ∀ x ∈ d, x ∈ ps) (h : posI ps c = posI ps d) : c = d := by
  induction c generalizing d with
  | nil =>
    cases d with
    | nil => rfl
    | cons a d => cases h
  | cons a c ih =>
    cases d with
    | nil => cases h
    | cons b d =>
      unfold posI at h
      rw [List.map_cons, List.map_cons] at h
      injection h with h1 h2
      have ha := List.idxOf_lt_length_iff.mpr (hc a List.mem_cons_self)
      have hb := List.idxOf_lt_length_iff.mpr (hd b List.mem_cons_self)
      have e : a = b := by
        have e1 : ps.idxOf a = ps.idxOf b := Int.ofNat.inj h1
        have g1 := List.getElem_idxOf ha
        have g2 := List.getElem_idxOf hb
        rw [← g1, ← g2]
        congr 1
      rw [e, ih (fun x hx => hc x (List.mem_cons_of_mem _ hx)) (fun x hx => hd x (List.mem_cons_of_mem _ hx)) h2]
/-- any list of all crowds, sorted, is the program's -/
theorem crowds_any {p : List α} (hp : p.Perm ps) (hn : ps.Nodup) (rf : ∀ x, n x x = true) (sy : ∀ x y, n x y = n y x) (pe : Peo n p) {l : List (List α)} (ln : l.Nodup) (lm : ∀ c, c ∈ l ↔ Mx ps n c) : l.mergeSort (leK (posI ps)) = crowds ps n p := by
  have sub : ∀ c, Mx ps n c → ∀ x ∈ c, x ∈ ps := fun c h x hx => (mem_ord.mp (h.od.symm ▸ hx)).1
  refine sort_unique (posI ps) ((List.perm_ext_iff_of_nodup ln (raw_nodup hp hn)).mpr fun c => (lm c).trans (mem_raw hp hn rf sy pe).symm) fun c hc d hd e => ?_
  exact posI_inj (sub c ((lm c).mp hc)) (sub d ((mem_raw hp hn rf sy pe).mp hd)) e
end
end CT
/-! M6 -/
/-! M6: the law's two lists of crowds. -/
namespace CT
variable {α : Type} [DecidableEq α]
/-! ### all cliques, one post after the other -/
def lLots (n : α → α → Bool) : List α → List (List α) → List (List α)
  | [], ls => ls
  | x :: xs, ls => lLots n xs (ls ++ (ls.filter fun l => areNear n (l ++ [x])).map fun l => l ++ [x])
theorem sub_snoc {l m : List α} {x : α} (hx : x ∉ m) : l.Sublist (m ++ [x]) ↔ l.Sublist m ∨ ∃ k, k.Sublist m ∧ l = k ++ [x] := by
  rw [List.sublist_append_iff]
  constructor
  · rintro ⟨a, b, rfl, h1, h2⟩
    cases h2 with
    | cons _ h3 =>
      rw [List.sublist_nil] at h3
      subst h3
      exact .inl (by rw [List.append_nil]; exact h1)
    | cons_cons _ h3 =>
      rw [List.sublist_nil] at h3
      subst h3
      exact .inr ⟨a, h1, rfl⟩
  · rintro (h | ⟨k, h, rfl⟩)
    · exact ⟨l, [], (List.append_nil l).symm, h, List.nil_sublist _⟩
    · exact ⟨k, [x], rfl, h, List.Sublist.refl _⟩
theorem clique_snoc {n : α → α → Bool} {l : List α} {x : α} (h : areNear n (l ++ [x]) = true) : areNear n l = true := by
  rw [areNear_iff] at h ⊢
  exact fun a ha b hb => h a (List.mem_append_left _ ha) b (List.mem_append_left _ hb)
theorem lots_mem (n : α → α → Bool) : ∀ (xs m : List α) (ls : List (List α)), (m ++ xs).Nodup → ls.Nodup → (∀ l, l ∈ ls ↔ l.Sublist m ∧ areNear n l = true) → (lLots n xs ls).Nodup ∧ ∀ l, l ∈ lLots n xs ls ↔ l.Sublist (m ++ xs) ∧ areNear n l = true
  | [], m, ls, _, nd, h => ⟨nd, fun l => by rw [List.append_nil]; exact h l⟩
  | x :: xs, m, ls, hn, nd, h => by
    have hx : x ∉ m := fun z => by
      have := (List.nodup_append.mp hn).2.2 x z x List.mem_cons_self
      exact this rfl
    have e : m ++ x :: xs = (m ++ [x]) ++ xs := by simp
    rw [e] at hn ⊢
    have nx : ∀ l ∈ ls, x ∉ l := fun l hl z => hx (((h l).mp hl).1.subset z)
    refine lots_mem n xs (m ++ [x]) _ hn ?_ fun l => ?_
    · rw [List.nodup_append]
      refine ⟨nd, ?_, fun a ha b hb e => ?_⟩
      · refine List.Pairwise.map _ (fun a b (hab : a ≠ b) e => hab (List.append_cancel_right e)) (List.Pairwise.sublist List.filter_sublist nd)
      · obtain ⟨k, _, rfl⟩ := List.mem_map.mp hb
        exact nx a ha (by rw [e]; simp)
    · rw [List.mem_append, List.mem_map, sub_snoc hx]
      constructor
      · rintro (hl | ⟨k, hk, rfl⟩)
        · exact ⟨.inl ((h l).mp hl).1, ((h l).mp hl).2⟩
        · have := List.mem_filter.mp hk
          exact ⟨.inr ⟨k, ((h k).mp this.1).1, rfl⟩, this.2⟩
      · rintro ⟨hl | ⟨k, hk, rfl⟩, hc⟩
        · exact .inl ((h l).mpr ⟨hl, hc⟩)
        · exact .inr ⟨k, List.mem_filter.mpr ⟨(h k).mpr ⟨hk, clique_snoc hc⟩, hc⟩, rfl⟩
section
variable {ps : List α} {n : α → α → Bool}
def lMore (ps : List α) (n : α → α → Bool) (l : List α) : Bool := (ps.filter fun x => !decide (x ∈ l) && (l.filter fun y => !n x y).isEmpty).isEmpty
def lFound (ps : List α) (n : α → α → Bool) : List (List α) := (lLots n ps [[]]).filter fun l => lMore ps n l && !l.isEmpty
theorem ord_of_sub {c : List α} (h : c.Sublist ps) (hn : ps.Nodup) : ord ps c = c := by
  unfold ord
  induction h with
  | slnil => rfl
  | @cons c ps a h ih =>
    have hn' := List.nodup_cons.mp hn
    rw [List.filter_cons_of_neg (by simpa using fun z => hn'.1 (h.subset z))]
    exact ih hn'.2
  | @cons_cons c ps a h ih =>
    have hn' := List.nodup_cons.mp hn
    rw [List.filter_cons_of_pos (by simp)]
    congr 1
    refine Eq.trans (List.filter_congr fun y hy => ?_) (ih hn'.2)
    have : y ≠ a := fun z => hn'.1 (z ▸ hy)
    simp [this]
theorem lMore_iff {l : List α} : lMore ps n l = true ↔ ∀ x ∈ ps, (∀ y ∈ l, n x y = true) → x ∈ l := by
  unfold lMore
  rw [List.isEmpty_iff, List.filter_eq_nil_iff]
  constructor
  · intro h x hx hy
    by_cases c : x ∈ l
    · exact c
    · exfalso
      refine h x hx ?_
      have : (l.filter fun y => !n x y) = [] := List.filter_eq_nil_iff.mpr fun y z => by simp [hy y z]
      simp [c, this]
  · intro h x hx hc
    rw [Bool.and_eq_true] at hc
    have c : x ∉ l := by simpa using hc.1
    refine c (h x hx fun y hy => ?_)
    have := List.filter_eq_nil_iff.mp (List.isEmpty_iff.mp hc.2) y hy
    simpa using this
theorem found_ok (hn : ps.Nodup) : (lFound ps n).Nodup ∧ ∀ c, c ∈ lFound ps n ↔ Mx ps n c := by
  obtain ⟨h1, h2⟩ := lots_mem n ps [] [[]] (by simpa using hn) (by simp) fun l => by
    constructor
    · intro h
      rw [List.mem_singleton.mp h]
      exact ⟨List.Sublist.refl _, by rw [areNear_iff]; intro a ha; cases ha⟩
    · rintro ⟨h, _⟩
      rw [List.sublist_nil] at h
      rw [h]; exact List.mem_singleton.mpr rfl
  refine ⟨List.Pairwise.sublist List.filter_sublist h1, fun c => ?_⟩
  unfold lFound
  rw [List.mem_filter, h2 c, List.nil_append, Bool.and_eq_true, lMore_iff, areNear_iff]
  constructor
  · rintro ⟨⟨a1, a2⟩, a3, a4⟩
    exact ⟨ord_of_sub a1 hn, fun e => (by rw [e] at a4; cases a4), a2, a3⟩
  · intro h
    refine ⟨⟨by rw [← h.od]; exact List.filter_sublist, h.cl⟩, h.mx, ?_⟩
    cases hc : c with
    | nil => exact absurd hc h.ne
    | cons a r => rfl
end
end CT
/-! M7 -/
/-! M7: the law's quick list of crowds. -/
namespace CT
variable {α : Type} [DecidableEq α]
section
variable {ps : List α} {n : α → α → Bool}
def qRows (ps : List α) (n : α → α → Bool) (p : List α) : List (List α) := p.zipIdx.map fun q => ps.filter fun y => decide (y ∈ p.drop q.2) && n q.1 y
def lSome {β : Type} [DecidableEq β] (rows : List (List β)) : List (List β) := rows.filter fun r => (rows.filter fun o => !decide (o = r) && (r.filter fun x => !decide (x ∈ o)).isEmpty).isEmpty
theorem mem_qRows {p c : List α} : c ∈ qRows ps n p ↔ ∃ i x, p[i]? = some x ∧ c = ps.filter fun y => decide (y ∈ p.drop i) && n x y := by
  unfold qRows
  rw [List.mem_map]
  constructor
  · rintro ⟨⟨x, i⟩, h, rfl⟩
    exact ⟨i, x, List.mem_zipIdx_iff_getElem?.mp h, rfl⟩
  · rintro ⟨i, x, h, rfl⟩
    exact ⟨(x, i), List.mem_zipIdx_iff_getElem?.mpr h, rfl⟩
theorem mem_lSome {β : Type} [DecidableEq β] {rows : List (List β)} {r : List β} : r ∈ lSome rows ↔ r ∈ rows ∧ ∀ o ∈ rows, (∀ x ∈ r, x ∈ o) → o = r := by
  unfold lSome
  rw [List.mem_filter, List.isEmpty_iff, List.filter_eq_nil_iff]
  refine and_congr_right fun _ => forall_congr' fun o => forall_congr' fun _ => ?_
  rw [Bool.and_eq_true, List.isEmpty_iff, List.filter_eq_nil_iff]
  constructor
  · intro h hs
    by_cases e : o = r
    · exact e
    · exact absurd ⟨by simpa using e, fun x hx => by simpa using hs x hx⟩ h
  · rintro h ⟨h1, h2⟩
    have := h fun x hx => by simpa using h2 x hx
    simp [this] at h1
theorem quick_ok {p : List α} (hp : p.Perm ps) (hn : ps.Nodup) (rf : ∀ x, n x x = true) (sy : ∀ x y, n x y = n y x) (pe : Peo n p) : (lSome (qRows ps n p)).Nodup ∧ ∀ c, c ∈ lSome (qRows ps n p) ↔ Mx ps n c := by
  have pn : p.Nodup := hp.nodup_iff.mpr hn
  have mrow : ∀ {i : Nat} {x y : α}, y ∈ (ps.filter fun y => decide (y ∈ p.drop i) && n x y) ↔ y ∈ p.drop i ∧ n x y = true := fun {i x y} => by
    rw [List.mem_filter, Bool.and_eq_true, decide_eq_true_eq]
    exact ⟨fun h => h.2, fun h => ⟨hp.mem_iff.mp (List.mem_of_mem_drop h.1), h⟩⟩
  have self : ∀ {i : Nat} {x : α}, p[i]? = some x → x ∈ p.drop i := fun {i x} h => by
    obtain ⟨hi, e⟩ := List.getElem?_eq_some_iff.mp h
    exact List.mem_drop_iff_getElem.mpr ⟨0, by omega, by simpa using e⟩
  have pos : ∀ {i j : Nat} {y : α}, p[j]? = some y → (y ∈ p.drop i ↔ i ≤ j) := fun {i j y} h => by
    obtain ⟨hj, e⟩ := List.getElem?_eq_some_iff.mp h
    rw [List.mem_drop_iff_getElem]
    constructor
    · rintro ⟨k, hk, e2⟩
      have := (List.getElem_inj pn).mp (e2.trans e.symm); omega
    · intro hij
      exact ⟨j - i, by omega, by simpa [Nat.add_sub_cancel' hij] using e⟩
  have clq : ∀ {i : Nat} {x : α}, p[i]? = some x → ∀ a, a ∈ p.drop i ∧ n x a = true → ∀ b, b ∈ p.drop i ∧ n x b = true → n a b = true := fun {i x} h a ha b hb => by
    obtain ⟨hi, e⟩ := List.getElem?_eq_some_iff.mp h
    rw [List.drop_eq_getElem_cons hi, e] at ha hb
    rcases List.mem_cons.mp ha.1 with rfl | ha1
    · exact hb.2
    rcases List.mem_cons.mp hb.1 with rfl | hb1
    · rw [sy]; exact ha.2
    exact pe i x h a ha1 b hb1 ha.2 hb.2
  constructor
  · refine List.Pairwise.sublist List.filter_sublist ?_
    refine List.pairwise_iff_getElem.mpr fun i j hi hj hij e => ?_
    have li : i < p.length := by unfold qRows at hi; rw [List.length_map, List.length_zipIdx] at hi; exact hi
    have lj : j < p.length := by unfold qRows at hj; rw [List.length_map, List.length_zipIdx] at hj; exact hj
    have gi : (qRows ps n p)[i] = ps.filter fun y => decide (y ∈ p.drop i) && n p[i] y := by simp [qRows]
    have gj : (qRows ps n p)[j] = ps.filter fun y => decide (y ∈ p.drop j) && n p[j] y := by simp [qRows]
    rw [gi, gj] at e
    have ei : p[i]? = some p[i] := List.getElem?_eq_getElem li
    have h1 := mrow.mpr ⟨self ei, rf p[i]⟩
    rw [e] at h1
    have := (pos ei).mp (mrow.mp h1).1
    omega
  · intro c
    rw [mem_lSome, mem_qRows]
    constructor
    · rintro ⟨⟨i, x, hx, rfl⟩, hm⟩
      have hxr := mrow.mpr ⟨self hx, rf x⟩
      refine ⟨?_, fun e => (by rw [e] at hxr; cases hxr), fun a ha b hb => clq hx a (mrow.mp ha) b (mrow.mp hb), fun z hz ha => ?_⟩
      · exact List.filter_congr fun y hy => Bool.eq_iff_iff.mpr (by rw [decide_eq_true_eq, mrow, Bool.and_eq_true, decide_eq_true_eq])
      · obtain ⟨j, hj, ej⟩ := List.getElem_of_mem (hp.mem_iff.mpr hz)
        have ej' : p[j]? = some z := List.getElem?_eq_some_iff.mpr ⟨hj, ej⟩
        by_cases hij : i ≤ j
        · exact mrow.mpr ⟨(pos ej').mpr hij, by rw [sy]; exact ha x hxr⟩
        · have e := hm _ (mem_qRows.mpr ⟨j, z, ej', rfl⟩) fun y hy => mrow.mpr ⟨?_, ha y hy⟩
          · rw [← e]; exact mrow.mpr ⟨self ej', rf z⟩
          · obtain ⟨k, hk, ek⟩ := List.getElem_of_mem (List.mem_of_mem_drop (mrow.mp hy).1)
            have ek' : p[k]? = some y := List.getElem?_eq_some_iff.mpr ⟨hk, ek⟩
            have := (pos ek').mp (mrow.mp hy).1
            exact (pos ek').mpr (by omega)
    · intro h
      have hsub : ∀ x ∈ c, x ∈ p := fun x hx => hp.mem_iff.mpr (mem_ord.mp (h.od.symm ▸ hx)).1
      have all : ∀ {i : Nat} {x : α}, p[i]? = some x → (∀ y ∈ c, y ∈ p.drop i ∧ n x y = true) → (ps.filter fun y => decide (y ∈ p.drop i) && n x y) = c := fun {i x} hx hc => by
        have : ∀ y, (y ∈ p.drop i ∧ n x y = true) → y ∈ c := fun y hy => h.mx y (hp.mem_iff.mp (List.mem_of_mem_drop hy.1)) fun a ha => clq hx y hy a (hc a ha)
        rw [← h.od]
        unfold ord
        refine List.filter_congr fun y hy => Bool.eq_iff_iff.mpr ?_
        rw [Bool.and_eq_true, decide_eq_true_eq, decide_eq_true_eq]
        exact ⟨this y, hc y⟩
      constructor
      · rcases least (fun i => ∃ x, p[i]? = some x ∧ x ∈ c) p.length with z | ⟨k, _, k2, x, k3, k4⟩
        · exfalso
          obtain ⟨x, hx⟩ := List.exists_mem_of_ne_nil c h.ne
          obtain ⟨j, hj, ej⟩ := List.getElem_of_mem (hsub x hx)
          exact z j hj ⟨x, List.getElem?_eq_some_iff.mpr ⟨hj, ej⟩, hx⟩
        · refine ⟨k, x, k3, (all k3 fun y hy => ⟨?_, h.cl x k4 y hy⟩).symm⟩
          obtain ⟨j, hj, ej⟩ := List.getElem_of_mem (hsub y hy)
          have ej' : p[j]? = some y := List.getElem?_eq_some_iff.mpr ⟨hj, ej⟩
          refine (pos ej').mpr ?_
          rcases Nat.lt_or_ge j k with hjk | hjk
          · exact absurd ⟨y, ej', hy⟩ (k2 j hjk)
          · exact hjk
      · rintro o ho hs
        obtain ⟨i, x, hx, rfl⟩ := mem_qRows.mp ho
        exact all hx fun y hy => mrow.mp (hs y hy)
end
end CT
/-! M8 -/
/-! M8: what ties lots together, counted. -/
namespace CT
/-- labels of m places -/
def lb (l : List Nat) (i : Nat) : Nat := l.getD i 0
theorem lb_tie (l : List Nat) (p : Pr) {i : Nat} (h : i < l.length) : lb (tie l p) i = if lb l i = lb l p.2 then lb l p.1 else lb l i := by
  unfold lb tie
  simp only [List.getD_eq_getElem?_getD, List.getElem?_map]
  rw [List.getElem?_eq_getElem h]
  rfl
/-- all pairs are taken, one after the other -/
def allAcc : List Nat → List Pr → Prop
  | _, [] => True
  | l, p :: F => lb l p.1 ≠ lb l p.2 ∧ allAcc (tie l p) F
theorem kStep_pos {s : List Pr × List Nat} {p : Pr} (h : lb s.2 p.1 = lb s.2 p.2) : kStep s p = s := if_pos h
theorem kStep_neg {s : List Pr × List Nat} {p : Pr} (h : lb s.2 p.1 ≠ lb s.2 p.2) : kStep s p = (s.1 ++ [p], tie s.2 p) := if_neg h
theorem kfold_acc (F : List Pr) : ∀ (a : List Pr) (l : List Nat), ∃ b, (F.foldl kStep (a, l)).1 = a ++ b ∧ b.Sublist F ∧ (F.foldl kStep (a, l)).2 = b.foldl tie l ∧ allAcc l b ∧ ∀ a', F.foldl kStep (a', l) = (a' ++ b, b.foldl tie l) := by
  induction F with
  | nil => intro a l; exact ⟨[], by simp, List.Sublist.refl _, rfl, trivial, fun a' => by simp⟩
  | cons p F ih =>
    intro a l
    by_cases h : lb l p.1 = lb l p.2
    · obtain ⟨b, h1, h2, h3, h4, h5⟩ := ih a l
      simp only [List.foldl_cons]
      have e : ∀ a', kStep (a', l) p = (a', l) := fun a' => kStep_pos h
      rw [e]
      exact ⟨b, h1, h2.cons _, h3, h4, fun a' => by rw [e]; exact h5 a'⟩
    · obtain ⟨b, h1, h2, h3, h4, h5⟩ := ih (a ++ [p]) (tie l p)
      simp only [List.foldl_cons]
      have e : ∀ a', kStep (a', l) p = (a' ++ [p], tie l p) := fun a' => kStep_neg h
      rw [e]
      exact ⟨p :: b, by rw [h1]; simp, h2.cons_cons _, h3, ⟨h, h4⟩, fun a' => by rw [e, h5]; simp⟩
/-- the taken ones and the labels -/
def acc (m : Nat) (F : List Pr) : List Pr := (kruskal m F).1
def lab (m : Nat) (F : List Pr) : List Nat := (kruskal m F).2
theorem lab_acc (m : Nat) (F : List Pr) : lab m F = (acc m F).foldl tie (List.range m) ∧ allAcc (List.range m) (acc m F) ∧ (acc m F).Sublist F := by
  obtain ⟨b, h1, h2, h3, h4, _⟩ := kfold_acc F [] (List.range m)
  have e : acc m F = b := h1
  rw [e]
  exact ⟨h3, h4, h2⟩
theorem allAcc_lab {m : Nat} {F : List Pr} (h : allAcc (List.range m) F) : acc m F = F ∧ lab m F = F.foldl tie (List.range m) := by
  suffices ∀ (F a : List Pr) (l : List Nat), allAcc l F → F.foldl kStep (a, l) = (a ++ F, F.foldl tie l) by
    have := this F [] _ h
    unfold acc lab kruskal
    rw [this]
    exact ⟨rfl, rfl⟩
  intro F
  induction F with
  | nil => intro a l _; simp
  | cons p F ih =>
    intro a l h
    simp only [List.foldl_cons]
    rw [kStep_neg (s := (a, l)) h.1, ih _ _ h.2]
    simp
theorem kfold_len (F : List Pr) : ∀ (a : List Pr) (l : List Nat), (F.foldl kStep (a, l)).2.length = l.length := by
  induction F with
  | nil => intro a l; rfl
  | cons p F ih =>
    intro a l
    simp only [List.foldl_cons]
    by_cases h : lb l p.1 = lb l p.2
    · rw [kStep_pos (s := (a, l)) h]; exact ih a l
    · rw [kStep_neg (s := (a, l)) h, ih]; exact tie_length l p
theorem lab_length (m : Nat) (F : List Pr) : (lab m F).length = m := (kfold_len F [] _).trans List.length_range
/-- one label stays one label, and a pair gets one label -/
theorem kfold_mono {m : Nat} (F : List Pr) (hF : ∀ p ∈ F, p.1 < m ∧ p.2 < m) : ∀ (a : List Pr) (l : List Nat), l.length = m → (∀ i j, i < m → j < m → lb l i = lb l j → lb (F.foldl kStep (a, l)).2 i = lb (F.foldl kStep (a, l)).2 j) ∧ ∀ p ∈ F, lb (F.foldl kStep (a, l)).2 p.1 = lb (F.foldl kStep (a, l)).2 p.2 := by
  induction F with
  | nil => intro a l _; exact ⟨fun i j _ _ h => h, fun p hp => by cases hp⟩
  | cons p F ih =>
    intro a l hl
    simp only [List.foldl_cons]
    have hp := hF p List.mem_cons_self
    have hF' : ∀ q ∈ F, q.1 < m ∧ q.2 < m := fun q hq => hF q (List.mem_cons_of_mem _ hq)
    by_cases h : lb l p.1 = lb l p.2
    · rw [kStep_pos (s := (a, l)) h]
      obtain ⟨h1, h2⟩ := ih hF' a l hl
      refine ⟨h1, fun q hq => ?_⟩
      rcases List.mem_cons.mp hq with rfl | hq
      · exact h1 _ _ hp.1 hp.2 h
      · exact h2 q hq
    · rw [kStep_neg (s := (a, l)) h]
      obtain ⟨h1, h2⟩ := ih hF' (a ++ [p]) (tie l p) ((tie_length l p).trans hl)
      have t : ∀ i j, i < m → j < m → lb l i = lb l j → lb (tie l p) i = lb (tie l p) j := fun i j hi hj e => by rw [lb_tie l p (by omega), lb_tie l p (by omega), e]
      refine ⟨fun i j hi hj e => h1 i j hi hj (t i j hi hj e), fun q hq => ?_⟩
      rcases List.mem_cons.mp hq with rfl | hq
      · refine h1 _ _ hp.1 hp.2 ?_
        rw [lb_tie l q (by omega), lb_tie l q (by omega)]
        simp
      · exact h2 q hq
/-- any labelling that every pair keeps is coarser -/
theorem kfold_univ {m : Nat} (g : Nat → Nat) (F : List Pr) (hF : ∀ p ∈ F, p.1 < m ∧ p.2 < m) (hg : ∀ p ∈ F, g p.1 = g p.2) : ∀ (a : List Pr) (l : List Nat), l.length = m → (∀ i j, i < m → j < m → lb l i = lb l j → g i = g j) → ∀ i j, i < m → j < m → lb (F.foldl kStep (a, l)).2 i = lb (F.foldl kStep (a, l)).2 j → g i = g j := by
  induction F with
  | nil => intro a l _ h i j hi hj e; exact h i j hi hj e
  | cons p F ih =>
    intro a l hl h
    simp only [List.foldl_cons]
    have hp := hF p List.mem_cons_self
    have gp := hg p List.mem_cons_self
    have hF' : ∀ q ∈ F, q.1 < m ∧ q.2 < m := fun q hq => hF q (List.mem_cons_of_mem _ hq)
    have hg' : ∀ q ∈ F, g q.1 = g q.2 := fun q hq => hg q (List.mem_cons_of_mem _ hq)
    by_cases c : lb l p.1 = lb l p.2
    · rw [kStep_pos (s := (a, l)) c]
      exact ih hF' hg' a l hl h
    · rw [kStep_neg (s := (a, l)) c]
      refine ih hF' hg' _ _ ((tie_length l p).trans hl) fun i j hi hj e => ?_
      rw [lb_tie l p (by omega), lb_tie l p (by omega)] at e
      split at e <;> split at e
      · rename_i h1 h2; exact h i j hi hj (h1.trans h2.symm)
      · rename_i h1 h2; exact (h i p.2 hi hp.2 h1).trans (gp.symm.trans (h p.1 j hp.1 hj e))
      · rename_i h1 h2; exact (h i p.1 hi hp.1 e).trans (gp.trans (h p.2 j hp.2 hj h2.symm))
      · exact h i j hi hj e
theorem lb_range {m i : Nat} (h : i < m) : lb (List.range m) i = i := by
  unfold lb
  rw [List.getD_eq_getElem?_getD, List.getElem?_range h]; rfl
theorem lab_pair {m : Nat} {F : List Pr} (hF : ∀ p ∈ F, p.1 < m ∧ p.2 < m) {p : Pr} (hp : p ∈ F) : lb (lab m F) p.1 = lb (lab m F) p.2 := (kfold_mono F hF [] _ List.length_range).2 p hp
theorem lab_univ {m : Nat} {F : List Pr} (hF : ∀ p ∈ F, p.1 < m ∧ p.2 < m) (g : Nat → Nat) (hg : ∀ p ∈ F, g p.1 = g p.2) {i j : Nat} (hi : i < m) (hj : j < m) (e : lb (lab m F) i = lb (lab m F) j) : g i = g j :=
  kfold_univ g F hF hg [] _ List.length_range (fun i j hi hj e => by rw [lb_range hi, lb_range hj] at e; rw [e]) i j hi hj e
/-! ### counting -/
theorem len_le {β : Type} [DecidableEq β] : ∀ {l1 l2 : List β}, l1.Nodup → (∀ x ∈ l1, x ∈ l2) → l1.length ≤ l2.length
  | [], _, _, _ => Nat.zero_le _
  | x :: l1, l2, hn, h => by
    have hx := h x List.mem_cons_self
    have := len_le (l1 := l1) (l2 := l2.erase x) (List.nodup_cons.mp hn).2 fun y hy => (List.mem_erase_of_ne fun (e : y = x) => (List.nodup_cons.mp hn).1 (by rw [← e]; exact hy)).mpr (h y (List.mem_cons_of_mem _ hy))
    rw [List.length_erase_of_mem hx] at this
    have := List.length_pos_of_mem hx
    rw [List.length_cons]; omega
/-- the labels in use -/
def vals (l : List Nat) : List Nat := (List.range l.length).filter fun v => decide (v ∈ l)
theorem vals_nodup (l : List Nat) : (vals l).Nodup := List.Pairwise.sublist List.filter_sublist List.nodup_range
end CT
/-! M9 -/
/-! M9: what ties lots together, counted: ranks. -/
namespace CT
theorem lb_mem {l : List Nat} {i : Nat} (h : i < l.length) : lb l i ∈ l := by
  unfold lb
  rw [List.getD_eq_getElem?_getD, List.getElem?_eq_getElem h]
  exact List.getElem_mem h
theorem lb_ex {l : List Nat} {v : Nat} (h : v ∈ l) : ∃ i, i < l.length ∧ lb l i = v := by
  obtain ⟨i, hi, e⟩ := List.getElem_of_mem h
  exact ⟨i, hi, by unfold lb; rw [List.getD_eq_getElem?_getD, List.getElem?_eq_getElem hi]; exact e⟩
theorem mem_vals {l : List Nat} {v : Nat} : v ∈ vals l ↔ v < l.length ∧ v ∈ l := by
  unfold vals; simp
/-- labels are numbers of places -/
def Small (l : List Nat) : Prop := ∀ v ∈ l, v < l.length
theorem mem_tie {l : List Nat} {p : Pr} (h1 : p.1 < l.length) (hd : lb l p.1 ≠ lb l p.2) {v : Nat} : v ∈ tie l p ↔ v ∈ l ∧ v ≠ lb l p.2 := by
  unfold tie
  rw [List.mem_map]
  constructor
  · rintro ⟨k, hk, rfl⟩
    by_cases e : k = l.getD p.2 0
    · rw [if_pos e]; exact ⟨lb_mem h1, hd⟩
    · rw [if_neg e]; exact ⟨hk, e⟩
  · rintro ⟨hv, hn⟩
    exact ⟨v, hv, if_neg hn⟩
theorem vals_tie {l : List Nat} {p : Pr} (s : Small l) (h1 : p.1 < l.length) (h2 : p.2 < l.length) (hd : lb l p.1 ≠ lb l p.2) : Small (tie l p) ∧ (vals (tie l p)).length + 1 = (vals l).length := by
  have e : (tie l p).length = l.length := tie_length l p
  refine ⟨fun v hv => by rw [e]; exact s v ((mem_tie h1 hd).mp hv).1, ?_⟩
  have hin : lb l p.2 ∈ vals l := mem_vals.mpr ⟨s _ (lb_mem h2), lb_mem h2⟩
  have a : (vals (tie l p)).length ≤ ((vals l).erase (lb l p.2)).length := len_le (vals_nodup _) fun v hv => by
    obtain ⟨z1, z2⟩ := mem_vals.mp hv
    obtain ⟨z3, z4⟩ := (mem_tie h1 hd).mp z2
    exact (List.mem_erase_of_ne z4).mpr (mem_vals.mpr ⟨e ▸ z1, z3⟩)
  have b : ((vals l).erase (lb l p.2)).length ≤ (vals (tie l p)).length := len_le ((vals_nodup l).erase _) fun v hv => by
    have hv2 := List.mem_of_mem_erase hv
    have hne : v ≠ lb l p.2 := fun z => by rw [z] at hv; exact (vals_nodup l).not_mem_erase hv
    obtain ⟨z1, z2⟩ := mem_vals.mp hv2
    exact mem_vals.mpr ⟨by rw [e]; exact z1, (mem_tie h1 hd).mpr ⟨z2, hne⟩⟩
  rw [List.length_erase_of_mem hin] at a b
  have := List.length_pos_of_mem hin
  omega
theorem vals_acc {m : Nat} : ∀ (F : List Pr) (l : List Nat), l.length = m → Small l → (∀ p ∈ F, p.1 < m ∧ p.2 < m) → allAcc l F → Small (F.foldl tie l) ∧ (vals (F.foldl tie l)).length + F.length = (vals l).length
  | [], l, _, s, _, _ => ⟨s, rfl⟩
  | p :: F, l, hl, s, hF, h => by
    have hp := hF p List.mem_cons_self
    obtain ⟨t1, t2⟩ := vals_tie s (by omega : p.1 < l.length) (by omega) h.1
    obtain ⟨u1, u2⟩ := vals_acc F (tie l p) ((tie_length l p).trans hl) t1 (fun q hq => hF q (List.mem_cons_of_mem _ hq)) h.2
    refine ⟨u1, ?_⟩
    simp only [List.foldl_cons, List.length_cons]
    omega
theorem small_range (m : Nat) : Small (List.range m) := fun v hv => by rw [List.length_range]; exact List.mem_range.mp hv
theorem vals_range (m : Nat) : (vals (List.range m)).length = m := by
  unfold vals
  rw [List.length_range, List.filter_eq_self.mpr fun v hv => by simpa using hv, List.length_range]
def Ins (m : Nat) (F : List Pr) : Prop := ∀ p ∈ F, p.1 < m ∧ p.2 < m
theorem rank_eq {m : Nat} {F : List Pr} (hF : Ins m F) : Small (lab m F) ∧ (vals (lab m F)).length + (acc m F).length = m := by
  obtain ⟨h1, h2, h3⟩ := lab_acc m F
  obtain ⟨u1, u2⟩ := vals_acc (acc m F) (List.range m) List.length_range (small_range m) (fun p hp => hF p (h3.subset hp)) h2
  rw [h1]
  exact ⟨u1, u2.trans (vals_range m)⟩
/-- coarser, so fewer -/
theorem vals_le {m : Nat} {l l' : List Nat} (hl : l.length = m) (hl' : l'.length = m) (s : Small l) (h : ∀ i j, i < m → j < m → lb l i = lb l j → lb l' i = lb l' j) : (vals l').length ≤ (vals l).length := by
  have key : ∀ v ∈ vals l', l'.idxOf v < m ∧ lb l' (l'.idxOf v) = v := fun v hv => by
    have := (mem_vals.mp hv).2
    have k := List.idxOf_lt_length_iff.mpr this
    refine ⟨hl' ▸ k, ?_⟩
    unfold lb
    rw [List.getD_eq_getElem?_getD, List.getElem?_eq_getElem k]
    exact List.getElem_idxOf k
  have nd : ((vals l').map fun v => lb l (l'.idxOf v)).Nodup := by
    unfold List.Nodup
    rw [List.pairwise_map]
    refine List.Pairwise.imp_of_mem (fun {a b} ha hb hab e => ?_) (vals_nodup l')
    obtain ⟨a1, a2⟩ := key a ha
    obtain ⟨b1, b2⟩ := key b hb
    exact hab (a2.symm.trans ((h _ _ a1 b1 e).trans b2))
  have := len_le nd (l2 := vals l) fun x hx => by
    obtain ⟨v, hv, rfl⟩ := List.mem_map.mp hx
    have := lb_mem (l := l) (i := l'.idxOf v) (by rw [hl]; exact (key v hv).1)
    exact mem_vals.mpr ⟨s _ this, this⟩
  rwa [List.length_map] at this
/-- ranks grow with what is tied -/
theorem rank_le {m : Nat} {E F : List Pr} (hE : Ins m E) (hF : Ins m F) (h : ∀ p ∈ E, lb (lab m F) p.1 = lb (lab m F) p.2) : (acc m E).length ≤ (acc m F).length := by
  have e1 := rank_eq hE
  have e2 := rank_eq hF
  have := vals_le (lab_length m E) (lab_length m F) e1.1 fun i j hi hj e => lab_univ hE (fun i => lb (lab m F) i) h hi hj e
  omega
theorem rank_sub {m : Nat} {E F : List Pr} (hF : Ins m F) (h : ∀ p ∈ E, p ∈ F) : (acc m E).length ≤ (acc m F).length :=
  rank_le (fun p hp => hF p (h p hp)) hF fun p hp => lab_pair hF (h p hp)
/-- all taken -/
def Forest (m : Nat) (F : List Pr) : Prop := acc m F = F
theorem forest_iff {m : Nat} {F : List Pr} : Forest m F ↔ (acc m F).length = F.length :=
  ⟨fun h => congrArg List.length h, fun h => (lab_acc m F).2.2.eq_of_length h⟩
theorem forest_acc {m : Nat} {F : List Pr} : Forest m F ↔ allAcc (List.range m) F :=
  ⟨fun h => by have := (lab_acc m F).2.1; rwa [h] at this, fun h => (allAcc_lab h).1⟩
theorem acc_forest (m : Nat) (F : List Pr) : Forest m (acc m F) := forest_acc.mpr (lab_acc m F).2.1
theorem forest_perm {m : Nat} {E F : List Pr} (p : E.Perm F) (hE : Ins m E) (h : Forest m E) : Forest m F := by
  rw [forest_iff] at h ⊢
  have h1 := rank_sub (m := m) (E := E) (F := F) (fun q hq => hE q (p.mem_iff.mpr hq)) fun q hq => p.mem_iff.mp hq
  have h2 := (lab_acc m F).2.2.length_le
  have := p.length_eq
  omega
theorem allAcc_sub {m : Nat} {E F : List Pr} (h : E.Sublist F) : ∀ (l l' : List Nat), l.length = m → l'.length = m → Ins m F → (∀ i j, i < m → j < m → lb l' i = lb l' j → lb l i = lb l j) → allAcc l F → allAcc l' E := by
  induction h with
  | slnil => intro l l' _ _ _ _ _; trivial
  | @cons E F p h ih =>
    intro l l' hl hl' hF hc ha
    have hp := hF p List.mem_cons_self
    refine ih (tie l p) l' ((tie_length l p).trans hl) hl' (fun q hq => hF q (List.mem_cons_of_mem _ hq)) (fun i j hi hj e => ?_) ha.2
    rw [lb_tie l p (by omega), lb_tie l p (by omega), hc i j hi hj e]
  | @cons_cons E F p h ih =>
    intro l l' hl hl' hF hc ha
    have hp := hF p List.mem_cons_self
    refine ⟨fun e => ha.1 (hc _ _ hp.1 hp.2 e), ?_⟩
    refine ih (tie l p) (tie l' p) ((tie_length l p).trans hl) ((tie_length l' p).trans hl') (fun q hq => hF q (List.mem_cons_of_mem _ hq)) (fun i j hi hj e => ?_) ha.2
    rw [lb_tie l' p (by omega), lb_tie l' p (by omega)] at e
    rw [lb_tie l p (by omega), lb_tie l p (by omega)]
    have c : ∀ i, i < m → lb l' i = lb l' p.2 → lb l i = lb l p.2 := fun i hi e => hc i p.2 hi hp.2 e
    split at e <;> split at e
    · rename_i h1 h2; rw [if_pos (c i hi h1), if_pos (c j hj h2)]
    · rename_i h1 h2
      rw [if_pos (c i hi h1), ← hc p.1 j hp.1 hj e]
      split <;> rfl
    · rename_i h1 h2
      rw [if_pos (c j hj h2), hc i p.1 hi hp.1 e]
      split <;> rfl
    · rw [hc i j hi hj e]
theorem forest_sub {m : Nat} {E F : List Pr} (hF : Ins m F) (h : E.Sublist F) (f : Forest m F) : Forest m E :=
  forest_acc.mpr (allAcc_sub h _ _ List.length_range List.length_range hF (fun i j _ _ e => e) (forest_acc.mp f))
end CT
/-! M10 -/
/-! M10: the weight of the tree. -/
namespace CT
/-! ### sums -/
def sumN (B : Nat) (f : Nat → Nat) : Nat := match B with
  | 0 => 0
  | B + 1 => sumN B f + f (B + 1)
theorem sumN_add (f g : Nat → Nat) : ∀ B, sumN B (fun t => f t + g t) = sumN B f + sumN B g
  | 0 => rfl
  | B + 1 => by unfold sumN; rw [sumN_add f g B]; omega
theorem sumN_le {f g : Nat → Nat} : ∀ B, (∀ t, 1 ≤ t → t ≤ B → f t ≤ g t) → sumN B f ≤ sumN B g
  | 0, _ => Nat.le_refl _
  | B + 1, h => by
    unfold sumN
    have := sumN_le B fun t h1 h2 => h t h1 (by omega)
    have := h (B + 1) (by omega) (Nat.le_refl _)
    omega
theorem sumN_zero (B : Nat) : sumN B (fun _ => 0) = 0 := by
  induction B with
  | zero => rfl
  | succ B ih => unfold sumN; rw [ih]
theorem sumN_congr {f g : Nat → Nat} : ∀ B, (∀ t, 1 ≤ t → t ≤ B → f t = g t) → sumN B f = sumN B g
  | 0, _ => rfl
  | B + 1, h => by
    unfold sumN
    rw [sumN_congr B fun t h1 h2 => h t h1 (by omega), h (B + 1) (by omega) (Nat.le_refl _)]
theorem sumN_ge (h : Nat) : ∀ B, h ≤ B → sumN B (fun t => if t ≤ h then 1 else 0) = h
  | 0, z => by unfold sumN; omega
  | B + 1, z => by
    unfold sumN
    by_cases e : h = B + 1
    · subst e
      rw [if_pos (Nat.le_refl _)]
      have : sumN B (fun t => if t ≤ B + 1 then 1 else 0) = sumN B (fun t => if t ≤ B then 1 else 0) := sumN_congr B fun t h1 h2 => by
        rw [if_pos (by omega), if_pos h2]
      rw [this, sumN_ge B B (Nat.le_refl _)]
    · rw [if_neg (by omega), sumN_ge h B (by omega)]; rfl
theorem sumN_eq1 (h : Nat) : ∀ B, 1 ≤ h → h ≤ B → sumN B (fun t => if h = t then 1 else 0) = 1
  | 0, z, z2 => by omega
  | B + 1, z, z2 => by
    unfold sumN
    by_cases e : h = B + 1
    · subst e
      rw [if_pos rfl]
      have : sumN B (fun t => if B + 1 = t then 1 else 0) = sumN B (fun _ => 0) := sumN_congr B fun t h1 h2 => if_neg (by omega)
      rw [this, sumN_zero]
    · rw [if_neg e, sumN_eq1 h B z (by omega)]
section
variable {β γ : Type}
theorem sum_ge (h : β → Nat) (B : Nat) : ∀ l : List β, (∀ x ∈ l, h x ≤ B) → (l.map h).sum = sumN B fun t => (l.filter fun x => decide (t ≤ h x)).length
  | [], _ => by simp [sumN_zero]
  | x :: l, hl => by
    rw [List.map_cons, List.sum_cons, sum_ge h B l fun y hy => hl y (List.mem_cons_of_mem _ hy)]
    have e : (fun t => ((x :: l).filter fun x => decide (t ≤ h x)).length) = fun t => (if t ≤ h x then 1 else 0) + (l.filter fun x => decide (t ≤ h x)).length := by
      funext t
      rw [List.filter_cons]
      by_cases c : t ≤ h x
      · rw [if_pos (decide_eq_true c), if_pos c, List.length_cons]; omega
      · rw [if_neg (by simpa using c), if_neg c]; omega
    rw [e, sumN_add, sumN_ge (h x) B (hl x List.mem_cons_self)]
theorem sum_one (h : β → Nat) (B : Nat) : ∀ l : List β, (∀ x ∈ l, 1 ≤ h x ∧ h x ≤ B) → l.length = sumN B fun t => (l.filter fun x => decide (h x = t)).length
  | [], _ => by simp [sumN_zero]
  | x :: l, hl => by
    have ih := sum_one h B l fun y hy => hl y (List.mem_cons_of_mem _ hy)
    have e : (fun t => ((x :: l).filter fun x => decide (h x = t)).length) = fun t => (if h x = t then 1 else 0) + (l.filter fun x => decide (h x = t)).length := by
      funext t
      rw [List.filter_cons]
      by_cases c : h x = t
      · rw [if_pos (decide_eq_true c), if_pos c, List.length_cons]; omega
      · rw [if_neg (by simpa using c), if_neg c]; omega
    have := hl x List.mem_cons_self
    rw [e, sumN_add, sumN_eq1 (h x) B this.1 this.2, ← ih, List.length_cons]; omega
/-- counted by the one, counted by the other -/
theorem count_swap (R : β → γ → Bool) (l : List γ) : ∀ k : List β, (k.map fun a => (l.filter fun b => R a b).length).sum = (l.map fun b => (k.filter fun a => R a b).length).sum
  | [] => by
    have : (l.map fun b => (([] : List β).filter fun a => R a b).length) = l.map fun _ => 0 := rfl
    rw [this]
    induction l with
    | nil => rfl
    | cons x l ih => simpa using ih
  | a :: k => by
    rw [List.map_cons, List.sum_cons, count_swap R l k]
    induction l with
    | nil => rfl
    | cons b l ih =>
      rw [List.map_cons, List.map_cons, List.sum_cons, List.sum_cons]
      have e : ((a :: k).filter fun a => R a b).length = (if R a b then 1 else 0) + (k.filter fun a => R a b).length := by
        rw [List.filter_cons]; split
        · rw [List.length_cons]; omega
        · omega
      have e2 : ((b :: l).filter fun b => R a b).length = (if R a b then 1 else 0) + (l.filter fun b => R a b).length := by
        rw [List.filter_cons]; split
        · rw [List.length_cons]; omega
        · omega
      rw [e, e2]; omega
/-- at most, and in all at least: so each -/
theorem sum_tight {f g : β → Nat} : ∀ l : List β, (∀ x ∈ l, f x + 1 ≤ g x) → (l.map g).sum ≤ (l.map f).sum + l.length → ∀ x ∈ l, f x + 1 = g x
  | [], _, _ => fun x hx => by cases hx
  | y :: l, h, hs => by
    have hl := fun x hx => h x (List.mem_cons_of_mem y hx)
    have hy := h y List.mem_cons_self
    rw [List.map_cons, List.map_cons, List.sum_cons, List.sum_cons, List.length_cons] at hs
    have key : ∀ l : List β, (∀ x ∈ l, f x + 1 ≤ g x) → (l.map f).sum + l.length ≤ (l.map g).sum := fun l => by
      induction l with
      | nil => intro _; exact Nat.le_refl _
      | cons z l ih =>
        intro hz
        have := ih fun x hx => hz x (List.mem_cons_of_mem _ hx)
        have := hz z List.mem_cons_self
        rw [List.map_cons, List.map_cons, List.sum_cons, List.sum_cons, List.length_cons]; omega
    have kl := key l hl
    intro x hx
    rcases List.mem_cons.mp hx with rfl | hx
    · omega
    · exact sum_tight l hl (by omega) x hx
theorem sum_key {f g : β → Nat} : ∀ l : List β, (∀ x ∈ l, f x + 1 = g x) → (l.map f).sum + l.length = (l.map g).sum
  | [], _ => rfl
  | y :: l, h => by
    have := sum_key l fun x hx => h x (List.mem_cons_of_mem _ hx)
    have := h y List.mem_cons_self
    rw [List.map_cons, List.map_cons, List.sum_cons, List.sum_cons, List.length_cons]; omega
end
/-! ### a forest within some places -/
theorem forest_in {m : Nat} {F : List Pr} (hF : Ins m F) (f : Forest m F) {O : List Nat} (hO : O.Nodup) (hm : ∀ i ∈ O, i < m) (hne : O ≠ []) (h : ∀ p ∈ F, p.1 ∈ O ∧ p.2 ∈ O) : F.length + 1 ≤ O.length := by
  obtain ⟨s, e⟩ := rank_eq hF
  rw [show acc m F = F from f] at e
  obtain ⟨o, ho⟩ := List.exists_mem_of_ne_nil O hne
  have nd : ((o :: (List.range m).filter fun i => !decide (i ∈ O)).map fun i => lb (lab m F) i).Nodup := by
    unfold List.Nodup
    rw [List.pairwise_map]
    have hd : (o :: (List.range m).filter fun i => !decide (i ∈ O)).Nodup := List.nodup_cons.mpr ⟨fun z => by simp [ho] at z, List.Pairwise.sublist List.filter_sublist List.nodup_range⟩
    refine List.Pairwise.imp_of_mem (fun {a b} ha hb hab e => hab ?_) hd
    have ma : ∀ {a}, a ∈ (o :: (List.range m).filter fun i => !decide (i ∈ O)) → a < m ∧ (a = o ∨ a ∉ O) := fun {a} ha => by
      rcases List.mem_cons.mp ha with rfl | ha
      · exact ⟨hm _ ho, .inl rfl⟩
      · obtain ⟨h1, h2⟩ := List.mem_filter.mp ha
        exact ⟨List.mem_range.mp h1, .inr (by simpa using h2)⟩
    obtain ⟨a1, a2⟩ := ma ha
    obtain ⟨b1, b2⟩ := ma hb
    have := lab_univ hF (fun i => if i ∈ O then o else i) (fun p hp => by
      have := h p hp
      show (if p.1 ∈ O then o else p.1) = if p.2 ∈ O then o else p.2
      rw [if_pos this.1, if_pos this.2]) a1 b1 e
    have g : ∀ {a}, (a = o ∨ a ∉ O) → (if a ∈ O then o else a) = a := fun {a} ha => by
      rcases ha with rfl | ha
      · rw [if_pos ho]
      · rw [if_neg ha]
    have this : (if a ∈ O then o else a) = if b ∈ O then o else b := this
    rwa [g a2, g b2] at this
  have h1 := len_le nd (l2 := vals (lab m F)) fun x hx => by
    obtain ⟨i, hi, rfl⟩ := List.mem_map.mp hx
    have him : i < m := by
      rcases List.mem_cons.mp hi with rfl | hi
      · exact hm _ ho
      · exact List.mem_range.mp (List.mem_filter.mp hi).1
    have := lb_mem (l := lab m F) (i := i) (by rw [lab_length]; exact him)
    exact mem_vals.mpr ⟨s _ this, this⟩
  rw [List.length_map, List.length_cons] at h1
  have h2 := len_le (l1 := List.range m) (l2 := O ++ (List.range m).filter fun i => !decide (i ∈ O)) List.nodup_range fun x hx => by
    rw [List.mem_append, List.mem_filter]
    by_cases c : x ∈ O
    · exact .inl c
    · exact .inr ⟨hx, by simpa using c⟩
  rw [List.length_append, List.length_range] at h2
  omega
/-! ### rows of a peeling -/
section
variable {α : Type} [DecidableEq α] {ps : List α} {n : α → α → Bool}
def rows (n : α → α → Bool) : List α → List (List α)
  | [] => []
  | x :: r => (x :: r.filter fun y => n x y) :: rows n r
theorem rows_len : ∀ r : List α, (rows n r).length = r.length
  | [] => rfl
  | x :: r => congrArg (· + 1) (rows_len r)
theorem rows_bd : ∀ r : List α, ∀ K ∈ rows n r, 1 ≤ K.length ∧ K.length ≤ r.length
  | [], K, h => by cases h
  | x :: r, K, h => by
    rcases List.mem_cons.mp h with rfl | h
    · exact ⟨by simp, by rw [List.length_cons, List.length_cons]; exact Nat.succ_le_succ (List.length_filter_le _ _)⟩
    · have := rows_bd r K h; exact ⟨this.1, by rw [List.length_cons]; omega⟩
theorem Peo.tail {x : α} {r : List α} (h : Peo n (x :: r)) : Peo n r := fun i y hy a ha b hb => h (i + 1) y hy a (by simpa using ha) b (by simpa using hb)
/-- a clique within r lies in a row -/
theorem in_row : ∀ (r L : List α), L ≠ [] → (∀ x ∈ L, x ∈ r) → (∀ a ∈ L, ∀ b ∈ L, n a b = true) → ∃ K ∈ rows n r, ∀ x ∈ L, x ∈ K
  | [], L, hne, hs, _ => by
    obtain ⟨x, hx⟩ := List.exists_mem_of_ne_nil L hne
    cases hs x hx
  | z :: r, L, hne, hs, hc => by
    by_cases hz : z ∈ L
    · refine ⟨_, List.mem_cons_self, fun x hx => ?_⟩
      rcases List.mem_cons.mp (hs x hx) with rfl | h
      · exact List.mem_cons_self
      · exact List.mem_cons_of_mem _ (List.mem_filter.mpr ⟨h, hc z hz x hx⟩)
    · obtain ⟨K, h1, h2⟩ := in_row r L hne (fun x hx => by
        rcases List.mem_cons.mp (hs x hx) with rfl | h
        · exact absurd hx hz
        · exact h) hc
      exact ⟨K, List.mem_cons_of_mem _ h1, h2⟩
/-- what holds of a row -/
theorem rows_ok (rf : ∀ x, n x x = true) (sy : ∀ x y, n x y = n y x) : ∀ r : List α, r.Nodup → Peo n r → ∀ K ∈ rows n r, K.Nodup ∧ (∀ x ∈ K, x ∈ r) ∧ ∀ a ∈ K, ∀ b ∈ K, n a b = true
  | [], _, _, K, h => by cases h
  | x :: r, nd, pe, K, h => by
    have nd' := List.nodup_cons.mp nd
    rcases List.mem_cons.mp h with rfl | h
    · refine ⟨List.nodup_cons.mpr ⟨fun z => nd'.1 (List.mem_filter.mp z).1, List.Pairwise.sublist List.filter_sublist nd'.2⟩, fun y hy => ?_, fun a ha b hb => ?_⟩
      · rcases List.mem_cons.mp hy with rfl | hy
        · exact List.mem_cons_self
        · exact List.mem_cons_of_mem _ (List.mem_filter.mp hy).1
      · rcases List.mem_cons.mp ha with rfl | ha
        · rcases List.mem_cons.mp hb with rfl | hb
          · exact rf _
          · exact (List.mem_filter.mp hb).2
        · rcases List.mem_cons.mp hb with rfl | hb
          · rw [sy]; exact (List.mem_filter.mp ha).2
          · have a1 := List.mem_filter.mp ha
            have b1 := List.mem_filter.mp hb
            exact pe 0 x rfl a (by simpa using a1.1) b (by simpa using b1.1) a1.2 b1.2
    · obtain ⟨h1, h2, h3⟩ := rows_ok rf sy r nd'.2 pe.tail K h
      exact ⟨h1, fun y hy => List.mem_cons_of_mem _ (h2 y hy), h3⟩
/-- a label of cliques that is one for two with t posts in common: every long row's label is that of a row of t posts -/
theorem rows_lab (rf : ∀ x, n x x = true) (sy : ∀ x y, n x y = n y x) {t : Nat} (ht : 1 ≤ t) (f : List α → Nat) : ∀ r : List α, r.Nodup → Peo n r →
    (∀ K ∈ rows n r, ∀ K' ∈ rows n r, ∀ L : List α, L.Nodup → t ≤ L.length → (∀ x ∈ L, x ∈ K) → (∀ x ∈ L, x ∈ K') → f K = f K') → ∀ K ∈ rows n r, t ≤ K.length → ∃ R ∈ rows n r, R.length = t ∧ f K = f R
  | [], _, _, _, K, h, _ => by cases h
  | x :: r, nd, pe, hf, K, h, hk => by
    have nd' := List.nodup_cons.mp nd
    have ih := rows_lab rf sy ht f r nd'.2 pe.tail fun K hK K' hK' => hf K (List.mem_cons_of_mem _ hK) K' (List.mem_cons_of_mem _ hK')
    have lift : ∀ K ∈ rows n r, t ≤ K.length → ∃ R ∈ rows n (x :: r), R.length = t ∧ f K = f R := fun K hK hk => by
      obtain ⟨R, h1, h2, h3⟩ := ih K hK hk
      exact ⟨R, List.mem_cons_of_mem _ h1, h2, h3⟩
    rcases List.mem_cons.mp h with rfl | h
    · by_cases e : (x :: r.filter fun y => n x y).length = t
      · exact ⟨_, List.mem_cons_self, e, rfl⟩
      · have hl : t ≤ (r.filter fun y => n x y).length := by rw [List.length_cons] at e hk; omega
        have ok := rows_ok rf sy (x :: r) nd pe _ List.mem_cons_self
        have cl : ∀ a ∈ (r.filter fun y => n x y), ∀ b ∈ (r.filter fun y => n x y), n a b = true := fun a ha b hb => ok.2.2 a (List.mem_cons_of_mem _ ha) b (List.mem_cons_of_mem _ hb)
        have ndL := (List.nodup_cons.mp ok.1).2
        obtain ⟨J, hJ, hs⟩ := in_row (n := n) r (r.filter fun y => n x y) (fun z => by rw [z] at hl; simp at hl; omega) (fun y hy => (List.mem_filter.mp hy).1) cl
        have hJl : t ≤ J.length := Nat.le_trans hl (len_le ndL hs)
        obtain ⟨R, h1, h2, h3⟩ := lift J hJ hJl
        exact ⟨R, h1, h2, (hf _ List.mem_cons_self J (List.mem_cons_of_mem _ hJ) _ ndL hl (fun y hy => List.mem_cons_of_mem _ hy) hs).trans h3⟩
    · exact lift K h hk
theorem ord_nodup (hn : ps.Nodup) (c : List α) : (ord ps c).Nodup := List.Pairwise.sublist List.filter_sublist hn
/-- a clique lies in a crowd -/
theorem grow (hn : ps.Nodup) (rf : ∀ x, n x x = true) (sy : ∀ x y, n x y = n y x) : ∀ (k : Nat) (c : List α), c ≠ [] → (∀ x ∈ c, x ∈ ps) → (∀ a ∈ c, ∀ b ∈ c, n a b = true) → ps.length ≤ (ord ps c).length + k → ∃ d, Mx ps n d ∧ ∀ x ∈ c, x ∈ d := by
  intro k
  induction k with
  | zero =>
    intro c hne hs hc hl
    refine ⟨ord ps c, ⟨ord_idem, fun e => ?_, fun a ha b hb => hc a (mem_ord.mp ha).2 b (mem_ord.mp hb).2, fun x hx _ => ?_⟩, fun x hx => mem_ord.mpr ⟨hs x hx, hx⟩⟩
    · obtain ⟨x, hx⟩ := List.exists_mem_of_ne_nil c hne
      have := mem_ord.mpr ⟨hs x hx, hx⟩
      rw [e] at this; cases this
    · have e : ord ps c = ps := List.filter_sublist.eq_of_length_le hl
      rw [e]; exact hx
  | succ k ih =>
    intro c hne hs hc hl
    by_cases h : ∃ x, x ∈ ps ∧ (∀ a ∈ c, n x a = true) ∧ x ∉ c
    · obtain ⟨x, hx, ha, hxc⟩ := h
      have hb : (ord ps c).length + 1 ≤ (ord ps (x :: c)).length := by
        have := len_le (l1 := x :: ord ps c) (l2 := ord ps (x :: c)) (List.nodup_cons.mpr ⟨fun z => hxc (mem_ord.mp z).2, ord_nodup hn c⟩) fun y hy => by
          rcases List.mem_cons.mp hy with rfl | hy
          · exact mem_ord.mpr ⟨hx, List.mem_cons_self⟩
          · exact mem_ord.mpr ⟨(mem_ord.mp hy).1, List.mem_cons_of_mem _ (mem_ord.mp hy).2⟩
        simpa using this
      obtain ⟨d, h1, h2⟩ := ih (x :: c) (by simp) (fun y hy => by
        rcases List.mem_cons.mp hy with rfl | hy
        · exact hx
        · exact hs y hy) (fun a ha' b hb' => by
        rcases List.mem_cons.mp ha' with e1 | ha2
        · rcases List.mem_cons.mp hb' with e2 | hb2
          · rw [e1, e2]; exact rf _
          · rw [e1]; exact ha b hb2
        · rcases List.mem_cons.mp hb' with e2 | hb2
          · rw [e2, sy]; exact ha a ha2
          · exact hc a ha2 b hb2) (by omega)
      exact ⟨d, h1, fun y hy => h2 y (List.mem_cons_of_mem _ hy)⟩
    · refine ⟨ord ps c, ⟨ord_idem, fun e => ?_, fun a ha b hb => hc a (mem_ord.mp ha).2 b (mem_ord.mp hb).2, fun x hx hxa => ?_⟩, fun x hx => mem_ord.mpr ⟨hs x hx, hx⟩⟩
      · obtain ⟨x, hx⟩ := List.exists_mem_of_ne_nil c hne
        have := mem_ord.mpr ⟨hs x hx, hx⟩
        rw [e] at this; cases this
      · refine mem_ord.mpr ⟨hx, ?_⟩
        by_cases e : x ∈ c
        · exact e
        · exact absurd ⟨x, hx, fun a ha => hxa a (mem_ord.mpr ⟨hs a ha, ha⟩), e⟩ h
end
end CT
/-! M11 -/
/-! M11: the tree's weight, post by post. -/
namespace CT
theorem acc_app (m : Nat) (E G : List Pr) : ∃ b, acc m (E ++ G) = acc m E ++ b ∧ b.Sublist G := by
  obtain ⟨b, h1, h2, _⟩ := kfold_acc G (acc m E) (lab m E)
  refine ⟨b, ?_, h2⟩
  unfold acc kruskal
  rw [List.foldl_append]
  exact h1
theorem split_desc {β : Type} (w : β → Nat) (t : Nat) : ∀ l : List β, l.Pairwise (fun a b => w b ≤ w a) → l = (l.filter fun x => decide (t ≤ w x)) ++ l.filter fun x => !decide (t ≤ w x)
  | [], _ => rfl
  | x :: l, h => by
    have h' := List.pairwise_cons.mp h
    by_cases c : t ≤ w x
    · rw [List.filter_cons_of_pos (by simpa using c), List.filter_cons_of_neg (by simpa using c), List.cons_append, ← split_desc w t l h'.2]
    · have e : ∀ y ∈ x :: l, ¬ t ≤ w y := fun y hy => by
        rcases List.mem_cons.mp hy with rfl | hy
        · exact c
        · have := h'.1 y hy; omega
      rw [List.filter_eq_nil_iff.mpr fun y hy => by simpa using e y hy, List.filter_eq_self.mpr fun y hy => by simpa using e y hy, List.nil_append]
theorem len_split {β : Type} (P : β → Bool) : ∀ l : List β, l.length = (l.filter P).length + (l.filter fun x => !P x).length
  | [] => rfl
  | x :: l => by
    have := len_split P l
    cases h : P x <;> simp [List.filter_cons, h] <;> omega
theorem lex_head {a b : Int} {l k : List Int} (h : a :: l ≤ b :: k) : a ≤ b := by
  refine Int.not_lt.mp fun z => ?_
  exact h (List.cons_lt_cons_iff.mpr (.inl z))
section
variable {α : Type} [DecidableEq α]
theorem allPairs_desc (cs : List (List α)) : (allPairs cs).Pairwise fun p q => cm cs q ≤ cm cs p := by
  unfold allPairs
  refine List.Pairwise.imp (fun {p q} h => ?_) (List.pairwise_mergeSort (leK_trans (pKey cs)) (leK_total (pKey cs)) _)
  have : pKey cs p ≤ pKey cs q := of_decide_eq_true h
  have := lex_head this
  omega
theorem mem_allPairs {cs : List (List α)} {p : Pr} : p ∈ allPairs cs ↔ PrOk cs.length p ∧ 0 < cm cs p := by
  unfold allPairs pairs1
  rw [List.mem_mergeSort, List.mem_filter, mem_pairs0, decide_eq_true_eq]
theorem allPairs_nodup (cs : List (List α)) : (allPairs cs).Nodup := by
  unfold allPairs pairs1
  exact (List.mergeSort_perm _ _).nodup_iff.mpr (List.Pairwise.sublist List.filter_sublist (pairs0_nodup _))
theorem ins_all (cs : List (List α)) : Ins cs.length (allPairs cs) := fun p hp => by
  have := (mem_allPairs.mp hp).1
  exact ⟨Nat.lt_trans this.1 this.2, this.2⟩
/-- those with t posts in common -/
def heavy (cs : List (List α)) (t : Nat) : List Pr := (allPairs cs).filter fun p => decide (t ≤ cm cs p)
theorem acc_heavy (cs : List (List α)) (t : Nat) : ((acc cs.length (allPairs cs)).filter fun p => decide (t ≤ cm cs p)) = acc cs.length (heavy cs t) := by
  have e := split_desc (cm cs) t _ (allPairs_desc cs)
  obtain ⟨b, h1, h2⟩ := acc_app cs.length (heavy cs t) ((allPairs cs).filter fun p => !decide (t ≤ cm cs p))
  have e' : acc cs.length (allPairs cs) = acc cs.length (heavy cs t) ++ b := by rw [← h1]; exact congrArg _ e
  have z1 : (acc cs.length (heavy cs t)).filter (fun p => decide (t ≤ cm cs p)) = acc cs.length (heavy cs t) := List.filter_eq_self.mpr fun p hp => (List.mem_filter.mp ((lab_acc _ _).2.2.subset hp)).2
  have z2 : b.filter (fun p => decide (t ≤ cm cs p)) = [] := List.filter_eq_nil_iff.mpr fun p hp => by simpa using (List.mem_filter.mp (h2.subset hp)).2
  rw [e', List.filter_append, z1, z2, List.append_nil]
theorem range_getD (cs : List (List α)) : (List.range cs.length).map (fun i => cs.getD i []) = cs := by
  apply List.ext_getElem?
  intro i
  by_cases h : i < cs.length
  · rw [List.getElem?_map, List.getElem?_range h, List.getElem?_eq_getElem h]
    show some (cs.getD i []) = _
    rw [List.getD_eq_getElem?_getD, List.getElem?_eq_getElem h]; rfl
  · rw [List.getElem?_eq_none (by simpa using h), List.getElem?_eq_none (by simpa using h)]
theorem filt_len (cs : List (List α)) (P : List α → Bool) : ((List.range cs.length).filter fun i => P (cs.getD i [])).length = (cs.filter P).length := by
  have := congrArg (fun l : List (List α) => (l.filter P).length) (range_getD cs)
  replace this : (((List.range cs.length).map (fun i => cs.getD i [])).filter P).length = (cs.filter P).length := this
  rw [List.filter_map, List.length_map] at this
  exact this
variable {ps : List α} {n : α → α → Bool} {p : List α} {cs : List (List α)}
structure Cr (ps : List α) (n : α → α → Bool) (p : List α) (cs : List (List α)) : Prop where
  nd : ps.Nodup
  rf : ∀ x, n x x = true
  sy : ∀ x y, n x y = n y x
  pm : p.Perm ps
  pe : Peo n p
  cn : cs.Nodup
  cm : ∀ c, c ∈ cs ↔ Mx ps n c
theorem Cr.at_ (h : Cr ps n p cs) {i : Nat} (hi : i < cs.length) : Mx ps n (cs.getD i []) := by
  rw [List.getD_eq_getElem?_getD, List.getElem?_eq_getElem hi]
  exact (h.cm _).mp (List.getElem_mem hi)
theorem Cr.cnd (h : Cr ps n p cs) {c : List α} (hc : Mx ps n c) : c.Nodup := by rw [← hc.od]; exact ord_nodup h.nd c
theorem Mx.sub {c : List α} (h : Mx ps n c) : ∀ x ∈ c, x ∈ ps := fun x hx => (mem_ord.mp (h.od.symm ▸ hx)).1
theorem Cr.ex (h : Cr ps n p cs) {K : List α} (hne : K ≠ []) (hs : ∀ x ∈ K, x ∈ ps) (hc : ∀ a ∈ K, ∀ b ∈ K, n a b = true) : ∃ i, i < cs.length ∧ ∀ x ∈ K, x ∈ cs.getD i [] := by
  obtain ⟨d, h1, h2⟩ := grow h.nd h.rf h.sy ps.length K hne hs hc (Nat.le_add_left _ _)
  obtain ⟨i, hi, e⟩ := List.getElem_of_mem ((h.cm d).mpr h1)
  exact ⟨i, hi, fun x hx => by rw [List.getD_eq_getElem?_getD, List.getElem?_eq_getElem hi]; show x ∈ cs[i]; rw [e]; exact h2 x hx⟩
theorem cm_ge (i j : Nat) {L : List α} (hL : L.Nodup) (h1 : ∀ x ∈ L, x ∈ cs.getD i []) (h2 : ∀ x ∈ L, x ∈ cs.getD j []) : L.length ≤ cm cs (i, j) := by
  unfold CT.cm
  exact len_le hL fun x hx => List.mem_filter.mpr ⟨h1 x hx, by simpa using h2 x hx⟩
theorem heavy_ins (cs : List (List α)) (t : Nat) : Ins cs.length (heavy cs t) := fun q hq => ins_all cs q (List.mem_filter.mp hq).1
theorem one_lab {t : Nat} (ht : 1 ≤ t) {i j : Nat} (hi : i < cs.length) (hj : j < cs.length) {L : List α} (hL : L.Nodup) (hl : t ≤ L.length) (h1 : ∀ x ∈ L, x ∈ cs.getD i []) (h2 : ∀ x ∈ L, x ∈ cs.getD j []) : lb (lab cs.length (heavy cs t)) i = lb (lab cs.length (heavy cs t)) j := by
  rcases Nat.lt_trichotomy i j with h | rfl | h
  · have c := cm_ge i j hL h1 h2
    exact lab_pair (p := (i, j)) (heavy_ins cs t) (List.mem_filter.mpr ⟨mem_allPairs.mpr ⟨⟨h, hj⟩, by omega⟩, by simpa using Nat.le_trans hl c⟩)
  · rfl
  · have c := cm_ge j i hL h2 h1
    exact (lab_pair (p := (j, i)) (heavy_ins cs t) (List.mem_filter.mpr ⟨mem_allPairs.mpr ⟨⟨h, hi⟩, by omega⟩, by simpa using Nat.le_trans hl c⟩)).symm
theorem rank_ge (h : Cr ps n p cs) {t : Nat} (ht : 1 ≤ t) : (cs.filter fun c => decide (t ≤ c.length)).length ≤ (acc cs.length (heavy cs t)).length + ((rows n p).filter fun R => decide (R.length = t)).length := by
  have pn : p.Nodup := h.pm.nodup_iff.mpr h.nd
  have psub : ∀ x ∈ p, x ∈ ps := fun x hx => h.pm.mem_iff.mp hx
  have re := rank_eq (heavy_ins cs t)
  obtain ⟨l, hl⟩ : ∃ l, l = lab cs.length (heavy cs t) := ⟨_, rfl⟩
  have ll : l.length = cs.length := by rw [hl]; exact lab_length _ _
  rw [← hl] at re
  obtain ⟨f, hf⟩ : ∃ f : List α → Nat, f = fun K => lb l (((List.range cs.length).find? fun i => K.all fun x => decide (x ∈ cs.getD i [])).getD 0) := ⟨_, rfl⟩
  -- the label of a clique
  have fk : ∀ K : List α, K ≠ [] → (∀ x ∈ K, x ∈ ps) → (∀ a ∈ K, ∀ b ∈ K, n a b = true) → ∃ i, i < cs.length ∧ (∀ x ∈ K, x ∈ cs.getD i []) ∧ f K = lb l i := fun K hne hs hc => by
    obtain ⟨i, hi, hx⟩ := h.ex hne hs hc
    cases e : (List.range cs.length).find? fun i => K.all fun x => decide (x ∈ cs.getD i []) with
    | none =>
      have := List.find?_eq_none.mp e i (List.mem_range.mpr hi)
      exact absurd (List.all_eq_true.mpr fun x hxk => decide_eq_true (hx x hxk)) this
    | some j =>
      have h1 := List.find?_some e
      have h2 := List.mem_range.mp (List.mem_of_find?_eq_some e)
      exact ⟨j, h2, fun x hxk => of_decide_eq_true (List.all_eq_true.mp h1 x hxk), by rw [hf]; show lb l (((List.range cs.length).find? fun i => K.all fun x => decide (x ∈ cs.getD i [])).getD 0) = _; rw [e]; rfl⟩
  have rok := rows_ok (n := n) h.rf h.sy p pn h.pe
  have rbd := rows_bd (n := n) p
  have fr : ∀ K ∈ rows n p, ∃ i, i < cs.length ∧ (∀ x ∈ K, x ∈ cs.getD i []) ∧ f K = lb l i := fun K hK => by
    obtain ⟨h1, h2, h3⟩ := rok K hK
    exact fk K (fun e => by have := (rbd K hK).1; rw [e] at this; simp at this) (fun x hx => psub x (h2 x hx)) h3
  have key := rows_lab h.rf h.sy ht f p pn h.pe fun K hK K' hK' L hLn hLt h1 h2 => by
    obtain ⟨i, i1, i2, i3⟩ := fr K hK
    obtain ⟨j, j1, j2, j3⟩ := fr K' hK'
    rw [i3, j3, hl]
    exact one_lab ht i1 j1 hLn hLt (fun x hx => i2 x (h1 x hx)) fun x hx => j2 x (h2 x hx)
  have cover := len_le (vals_nodup l) (l2 := (((List.range cs.length).filter fun i => !decide (t ≤ (cs.getD i []).length)).map fun i => lb l i) ++ ((rows n p).filter fun R => decide (R.length = t)).map f) fun v hv => by
    obtain ⟨i, hi, rfl⟩ := lb_ex (mem_vals.mp hv).2
    rw [ll] at hi
    rw [List.mem_append]
    by_cases c : t ≤ (cs.getD i []).length
    · right
      have mx := h.at_ hi
      have cnd := h.cnd mx
      obtain ⟨K, k1, k2⟩ := in_row (n := n) p (cs.getD i []) mx.ne (fun x hx => h.pm.mem_iff.mpr (mx.sub x hx)) mx.cl
      obtain ⟨R, r1, r2, r3⟩ := key K k1 (Nat.le_trans c (len_le cnd k2))
      obtain ⟨j, j1, j2, j3⟩ := fr K k1
      have := one_lab ht hi j1 cnd c (fun x hx => hx) fun x hx => j2 x (k2 x hx)
      rw [← hl] at this
      exact List.mem_map.mpr ⟨R, List.mem_filter.mpr ⟨r1, decide_eq_true r2⟩, by rw [← r3, j3, this]⟩
    · exact .inl (List.mem_map.mpr ⟨i, List.mem_filter.mpr ⟨List.mem_range.mpr hi, by simpa using c⟩, rfl⟩)
  rw [List.length_append, List.length_map, List.length_map] at cover
  have e1 := filt_len cs fun c => decide (t ≤ c.length)
  have e2 := len_split (fun i => decide (t ≤ (cs.getD i []).length)) (List.range cs.length)
  rw [List.length_range] at e2
  have e3 : ((List.range cs.length).filter fun i => decide (t ≤ (cs.getD i []).length)).length = (cs.filter fun c => decide (t ≤ c.length)).length := e1
  omega
/-- the tree weighs enough -/
theorem weight_ge (h : Cr ps n p cs) : (cs.map List.length).sum ≤ ((acc cs.length (allPairs cs)).map (CT.cm cs)).sum + ps.length := by
  have cb : ∀ c ∈ cs, c.length ≤ ps.length := fun c hc => by
    have := (h.cm c).mp hc
    rw [← this.od]; exact List.length_filter_le _ _
  have cmb : ∀ q ∈ acc cs.length (allPairs cs), CT.cm cs q ≤ ps.length := fun q hq => by
    have := (ins_all cs q ((lab_acc _ _).2.2.subset hq)).1
    exact Nat.le_trans (List.length_filter_le _ _) (cb _ ((h.cm _).mpr (h.at_ this)))
  have rl : (rows n p).length = ps.length := by rw [rows_len, h.pm.length_eq]
  rw [sum_ge List.length ps.length cs cb, sum_ge (CT.cm cs) ps.length _ cmb]
  have e : ps.length = sumN ps.length fun t => ((rows n p).filter fun R => decide (R.length = t)).length := by
    have := sum_one List.length ps.length (rows n p) fun R hR => by
      have := rows_bd p R hR
      rw [h.pm.length_eq] at this
      exact this
    rw [rl] at this
    exact this
  have key := sumN_le (f := fun t => (cs.filter fun c => decide (t ≤ c.length)).length) (g := fun t => ((acc cs.length (allPairs cs)).filter fun q => decide (t ≤ CT.cm cs q)).length + ((rows n p).filter fun R => decide (R.length = t)).length) ps.length fun t h1 _ => by
    rw [acc_heavy]
    exact rank_ge h h1
  rw [sumN_add, ← e] at key
  exact key
def ownP (cs : List (List α)) (x : α) : List Nat := (List.range cs.length).filter fun i => decide (x ∈ cs.getD i [])
theorem mem_own {x : α} {i : Nat} : i ∈ ownP cs x ↔ i < cs.length ∧ x ∈ cs.getD i [] := by
  unfold ownP
  rw [List.mem_filter, List.mem_range, decide_eq_true_eq]
def inOwn (cs : List (List α)) (x : α) (q : Pr) : Bool := decide (q.1 ∈ ownP cs x) && decide (q.2 ∈ ownP cs x)
/-- post by post -/
theorem tree_posts (h : Cr ps n p cs) : (∀ x ∈ ps, ((acc cs.length (allPairs cs)).filter (inOwn cs x)).length + 1 = (ownP cs x).length) ∧ ((acc cs.length (allPairs cs)).map (CT.cm cs)).sum + ps.length = (cs.map List.length).sum := by
  obtain ⟨T, hT⟩ : ∃ T, T = acc cs.length (allPairs cs) := ⟨_, rfl⟩
  have fT : Forest cs.length T := by rw [hT]; exact acc_forest _ _
  have iT : Ins cs.length T := fun q hq => ins_all cs q ((lab_acc _ _).2.2.subset (hT ▸ hq))
  have w := weight_ge h
  rw [← hT] at w ⊢
  have e1 : (T.map (CT.cm cs)).sum = (ps.map fun x => (T.filter (inOwn cs x)).length).sum := by
    have := count_swap (fun (q : Pr) x => inOwn cs x q) ps T
    rw [← this]
    congr 1
    refine List.map_congr_left fun q hq => ?_
    have hq' := iT q hq
    have mx := h.at_ hq'.1
    show ((cs.getD q.1 []).filter fun x => decide (x ∈ cs.getD q.2 [])).length = _
    have e0 : (cs.getD q.1 []).filter (fun x => decide (x ∈ cs.getD q.2 [])) = (ord ps (cs.getD q.1 [])).filter (fun x => decide (x ∈ cs.getD q.2 [])) := by rw [mx.od]
    rw [e0]
    unfold ord
    rw [List.filter_filter]
    congr 1
    refine List.filter_congr fun x hx => ?_
    unfold inOwn
    rw [Bool.eq_iff_iff]
    simp only [Bool.and_eq_true, decide_eq_true_eq, mem_own, hq', true_and]
    exact And.comm
  have e2 : (cs.map List.length).sum = (ps.map fun x => (ownP cs x).length).sum := by
    have := count_swap (fun (i : Nat) x => decide (x ∈ cs.getD i [])) ps (List.range cs.length)
    have e3 : (cs.map List.length).sum = ((List.range cs.length).map fun i => (ps.filter fun x => decide (x ∈ cs.getD i [])).length).sum := by
      have e4 := congrArg (fun l : List (List α) => (l.map List.length).sum) (range_getD cs)
      replace e4 : (((List.range cs.length).map (fun i => cs.getD i [])).map List.length).sum = (cs.map List.length).sum := e4
      rw [← e4, List.map_map]
      congr 1
      refine List.map_congr_left fun i hi => ?_
      have mx := h.at_ (List.mem_range.mp hi)
      show (cs.getD i []).length = (ord ps (cs.getD i [])).length
      rw [mx.od]
    rw [e3, this]
    rfl
  have ub : ∀ x ∈ ps, (T.filter (inOwn cs x)).length + 1 ≤ (ownP cs x).length := fun x hx => by
    refine forest_in (m := cs.length) (fun q hq => iT q (List.mem_filter.mp hq).1) (forest_sub iT List.filter_sublist fT) (List.Pairwise.sublist List.filter_sublist List.nodup_range) (fun i hi => (mem_own.mp hi).1) (fun e => ?_) fun q hq => ?_
    · obtain ⟨i, i1, i2⟩ := h.ex (K := [x]) (by simp) (fun y hy => by rw [List.mem_singleton.mp hy]; exact hx) fun a ha b hb => by rw [List.mem_singleton.mp ha, List.mem_singleton.mp hb]; exact h.rf x
      have := mem_own.mpr ⟨i1, i2 x (List.mem_singleton.mpr rfl)⟩
      rw [e] at this; cases this
    · have := (List.mem_filter.mp hq).2
      unfold inOwn at this
      rw [Bool.and_eq_true] at this
      exact ⟨of_decide_eq_true this.1, of_decide_eq_true this.2⟩
  have t := sum_tight ps ub (by rw [← e1, ← e2]; exact w)
  refine ⟨t, ?_⟩
  rw [e1, e2]
  exact sum_key ps t
end
end CT
/-! M12 -/
/-! M12: the tree told is a tree, by the program's judge and by the law's lots. -/
namespace CT
section
variable {α : Type} [DecidableEq α] {ps : List α} {n : α → α → Bool} {p : List α} {cs : List (List α)}
theorem tree_perm (cs : List (List α)) : (tree cs).Perm (acc cs.length (allPairs cs)) := List.mergeSort_perm _ _
theorem tree_mem {q : Pr} (h : q ∈ tree cs) : PrOk cs.length q ∧ 0 < CT.cm cs q := mem_allPairs.mp ((lab_acc _ _).2.2.subset ((tree_perm cs).mem_iff.mp h))
theorem tree_ins (cs : List (List α)) : Ins cs.length (tree cs) := fun q hq => by
  have := (tree_mem hq).1
  exact ⟨Nat.lt_trans this.1 this.2, this.2⟩
theorem tree_forest (cs : List (List α)) : Forest cs.length (tree cs) :=
  forest_perm (tree_perm cs).symm (fun q hq => tree_ins cs q ((tree_perm cs).mem_iff.mpr hq)) (acc_forest _ _)
theorem tree_own (h : Cr ps n p cs) : ∀ x ∈ ps, ((tree cs).filter (inOwn cs x)).length + 1 = (ownP cs x).length := fun x hx => by
  rw [((tree_perm cs).filter _).length_eq]
  exact (tree_posts h).1 x hx
theorem perm_sum {l k : List Nat} (h : l.Perm k) : l.sum = k.sum := by
  induction h with
  | nil => rfl
  | cons a h ih => rw [List.sum_cons, List.sum_cons, ih]
  | swap a b l => rw [List.sum_cons, List.sum_cons, List.sum_cons, List.sum_cons]; omega
  | trans h1 h2 ih1 ih2 => exact ih1.trans ih2
theorem tree_weight (h : Cr ps n p cs) : ((tree cs).map (CT.cm cs)).sum + ps.length = (cs.map List.length).sum := by
  rw [perm_sum ((tree_perm cs).map _)]
  exact (tree_posts h).2
theorem judge_fold (cs : List (List α)) : ∀ (F : List Pr) (l : List Nat) (k : Nat), allAcc l F → (∀ q ∈ F, 0 < CT.cm cs q) → F.foldl (jStep cs) (some (l, k)) = some (F.foldl tie l, k + (F.map (CT.cm cs)).sum)
  | [], l, k, _, _ => rfl
  | q :: F, l, k, h, hc => by
    have hq := hc q List.mem_cons_self
    have e : jStep cs (some (l, k)) q = some (tie l q, k + CT.cm cs q) := by
      unfold jStep
      exact if_neg fun z => by
        rcases z with z | z
        · exact h.1 z
        · omega
    rw [List.foldl_cons, e, judge_fold cs F _ _ h.2 fun r hr => hc r (List.mem_cons_of_mem _ hr), List.foldl_cons, List.map_cons, List.sum_cons, Nat.add_assoc]
theorem judge_tree (h : Cr ps n p cs) : ∃ s, judge cs (tree cs) = some s ∧ s.2 + ps.length = (cs.map List.length).sum := by
  refine ⟨_, judge_fold cs (tree cs) _ 0 (forest_acc.mp (tree_forest cs)) fun q hq => (tree_mem hq).2, ?_⟩
  show 0 + _ + _ = _
  rw [Nat.zero_add]
  exact tree_weight h
end
/-! ### the law's lots -/
def lotOf (hs : List (List Nat)) (i : Nat) : List Nat := (hs.filter fun L => decide (i ∈ L)).headD []
def hStep (hs : List (List Nat)) (q : Pr) : List (List Nat) := (hs.filter fun L => !decide (L ∈ [lotOf hs q.1, lotOf hs q.2])) ++ [lotOf hs q.1 ++ lotOf hs q.2]
def hang (m : Nat) (F : List Pr) : List (List Nat) := F.foldl hStep ((List.range m).map fun k => [k])
structure Hg (m : Nat) (l : List Nat) (hs : List (List Nat)) : Prop where
  len : l.length = m
  cov : ∀ i, i < m → ∃ L ∈ hs, i ∈ L
  one : ∀ L ∈ hs, ∀ i ∈ L, ∀ j ∈ L, lb l i = lb l j
  sep : ∀ L ∈ hs, ∀ L' ∈ hs, ∀ i ∈ L, ∀ j ∈ L', lb l i = lb l j → L = L'
  lt : ∀ L ∈ hs, ∀ i ∈ L, i < m
  nd : ∀ L ∈ hs, L.Nodup
  ln : hs.length ≤ m
section
variable {m : Nat} {l : List Nat} {hs : List (List Nat)}
theorem Hg.lot (h : Hg m l hs) {i : Nat} (hi : i < m) : ∃ r, (hs.filter fun L => decide (i ∈ L)) = lotOf hs i :: r ∧ lotOf hs i ∈ hs ∧ i ∈ lotOf hs i := by
  obtain ⟨L, h1, h2⟩ := h.cov i hi
  have hm : L ∈ hs.filter fun L => decide (i ∈ L) := List.mem_filter.mpr ⟨h1, decide_eq_true h2⟩
  unfold lotOf
  cases e : hs.filter fun L => decide (i ∈ L) with
  | nil => rw [e] at hm; cases hm
  | cons a r =>
    have : a ∈ hs.filter fun L => decide (i ∈ L) := by rw [e]; exact List.mem_cons_self
    have := List.mem_filter.mp this
    exact ⟨r, rfl, this.1, of_decide_eq_true this.2⟩
theorem Hg.small (h : Hg m l hs) {L : List Nat} (hL : L ∈ hs) : L.length ≤ m := by
  have := len_le (h.nd L hL) (l2 := List.range m) fun i hi => List.mem_range.mpr (h.lt L hL i hi)
  rwa [List.length_range] at this
theorem hg_start (m : Nat) : Hg m (List.range m) ((List.range m).map fun k => [k]) := by
  have mem : ∀ L ∈ (List.range m).map (fun k => [k]), ∃ k, k < m ∧ L = [k] := fun L hL => by
    obtain ⟨k, hk, rfl⟩ := List.mem_map.mp hL
    exact ⟨k, List.mem_range.mp hk, rfl⟩
  refine ⟨List.length_range, fun i hi => ⟨[i], List.mem_map.mpr ⟨i, List.mem_range.mpr hi, rfl⟩, List.mem_singleton.mpr rfl⟩, fun L hL i hi j hj => ?_, fun L hL L' hL' i hi j hj e => ?_, fun L hL i hi => ?_, fun L hL => ?_, by rw [List.length_map, List.length_range]; exact Nat.le_refl _⟩
  · obtain ⟨k, hk, rfl⟩ := mem L hL
    rw [List.mem_singleton.mp hi, List.mem_singleton.mp hj]
  · obtain ⟨k, hk, rfl⟩ := mem L hL
    obtain ⟨k', hk', rfl⟩ := mem L' hL'
    rw [List.mem_singleton.mp hi, List.mem_singleton.mp hj, lb_range hk, lb_range hk'] at e
    rw [e]
  · obtain ⟨k, hk, rfl⟩ := mem L hL
    rw [List.mem_singleton.mp hi]; exact hk
  · obtain ⟨k, hk, rfl⟩ := mem L hL
    simp
theorem hg_step (h : Hg m l hs) {q : Pr} (h1 : q.1 < m) (h2 : q.2 < m) (hd : lb l q.1 ≠ lb l q.2) : q.2 ∉ lotOf hs q.1 ∧ Hg m (tie l q) (hStep hs q) := by
  obtain ⟨_, _, a1, a2⟩ := h.lot h1
  obtain ⟨_, _, b1, b2⟩ := h.lot h2
  obtain ⟨A, hA⟩ : ∃ A, A = lotOf hs q.1 := ⟨_, rfl⟩
  obtain ⟨B, hB⟩ : ∃ B, B = lotOf hs q.2 := ⟨_, rfl⟩
  unfold hStep
  rw [← hA] at a1 a2 ⊢
  rw [← hB] at b1 b2 ⊢
  have mem : ∀ L, L ∈ ((hs.filter fun L => !decide (L ∈ [A, B])) ++ [A ++ B]) ↔ (L ∈ hs ∧ L ≠ A ∧ L ≠ B) ∨ L = A ++ B := fun L => by
    rw [List.mem_append, List.mem_filter, List.mem_singleton]
    simp
  have tl : ∀ i, i < m → lb (tie l q) i = if lb l i = lb l q.2 then lb l q.1 else lb l i := fun i hi => lb_tie l q (by rw [h.len]; exact hi)
  have tA : ∀ i ∈ A, lb (tie l q) i = lb l q.1 := fun i hi => by
    rw [tl i (h.lt A a1 i hi), h.one A a1 i hi _ a2]
    exact if_neg hd
  have tB : ∀ i ∈ B, lb (tie l q) i = lb l q.1 := fun i hi => by
    rw [tl i (h.lt B b1 i hi), if_pos (h.one B b1 i hi _ b2)]
  have tAB : ∀ i ∈ A ++ B, lb (tie l q) i = lb l q.1 ∧ i < m := fun i hi => by
    rcases List.mem_append.mp hi with hi | hi
    · exact ⟨tA i hi, h.lt A a1 i hi⟩
    · exact ⟨tB i hi, h.lt B b1 i hi⟩
  have tO : ∀ L, L ∈ hs → L ≠ B → ∀ i ∈ L, lb (tie l q) i = lb l i := fun L hL hne i hi => by
    rw [tl i (h.lt L hL i hi)]
    exact if_neg fun z => hne (h.sep L hL B b1 i hi _ b2 z)
  refine ⟨fun z => hd (h.one A a1 _ a2 _ z), ⟨(tie_length l q).trans h.len, fun i hi => ?_, fun L hL i hi j hj => ?_, fun L hL L' hL' i hi j hj e => ?_, fun L hL i hi => ?_, fun L hL => ?_, ?_⟩⟩
  · obtain ⟨L, c1, c2⟩ := h.cov i hi
    by_cases eA : L = A
    · exact ⟨_, (mem _).mpr (.inr rfl), List.mem_append_left _ (eA ▸ c2)⟩
    · by_cases eB : L = B
      · exact ⟨_, (mem _).mpr (.inr rfl), List.mem_append_right _ (eB ▸ c2)⟩
      · exact ⟨L, (mem _).mpr (.inl ⟨c1, eA, eB⟩), c2⟩
  · rcases (mem L).mp hL with ⟨c1, c2, c3⟩ | rfl
    · rw [tO L c1 c3 i hi, tO L c1 c3 j hj]; exact h.one L c1 i hi j hj
    · rw [(tAB i hi).1, (tAB j hj).1]
  · rcases (mem L).mp hL with ⟨c1, c2, c3⟩ | rfl
    · rw [tO L c1 c3 i hi] at e
      rcases (mem L').mp hL' with ⟨d1, d2, d3⟩ | rfl
      · rw [tO L' d1 d3 j hj] at e
        exact h.sep L c1 L' d1 i hi j hj e
      · rw [(tAB j hj).1] at e
        exact absurd (h.sep L c1 A a1 i hi _ a2 e) c2
    · rw [(tAB i hi).1] at e
      rcases (mem L').mp hL' with ⟨d1, d2, d3⟩ | rfl
      · rw [tO L' d1 d3 j hj] at e
        exact absurd (h.sep L' d1 A a1 j hj _ a2 e.symm) d2
      · rfl
  · rcases (mem L).mp hL with ⟨c1, _⟩ | rfl
    · exact h.lt L c1 i hi
    · exact (tAB i hi).2
  · rcases (mem L).mp hL with ⟨c1, _⟩ | rfl
    · exact h.nd L c1
    · rw [List.nodup_append]
      refine ⟨h.nd A a1, h.nd B b1, fun a ha b hb e => ?_⟩
      subst e
      exact hd ((h.one A a1 _ a2 a ha).trans (h.one B b1 a hb _ b2))
  · rw [List.length_append]
    have s := len_split (fun L => !decide (L ∈ [A, B])) hs
    have : 1 ≤ (hs.filter fun L => !!decide (L ∈ [A, B])).length := List.length_pos_of_mem (List.mem_filter.mpr ⟨a1, by simp⟩)
    have := h.ln
    simp only [List.length_cons, List.length_nil]
    omega
theorem hg_take {F : List Pr} (hF : Ins m F) (f : Forest m F) : ∀ j, j ≤ F.length → Hg m ((F.take j).foldl tie (List.range m)) (hang m (F.take j)) ∧ ∀ q, F[j]? = some q → q.2 ∉ lotOf (hang m (F.take j)) q.1 := by
  have ac := forest_acc.mp f
  have acAt : ∀ (F : List Pr) (l : List Nat) (j : Nat) (q : Pr), allAcc l F → F[j]? = some q → lb ((F.take j).foldl tie l) q.1 ≠ lb ((F.take j).foldl tie l) q.2 := fun F => by
    induction F with
    | nil => intro l j q _ h; cases h
    | cons r F ih =>
      intro l j q ha h
      cases j with
      | zero => cases h; exact ha.1
      | succ j => exact ih (tie l r) j q ha.2 h
  have key : ∀ j, j ≤ F.length → Hg m ((F.take j).foldl tie (List.range m)) (hang m (F.take j)) := fun j => by
    induction j with
    | zero => intro _; exact hg_start m
    | succ j ih =>
      intro hj
      have hq : F[j]? = some F[j] := List.getElem?_eq_getElem (by omega)
      have e : F.take (j + 1) = F.take j ++ [F[j]] := by rw [List.take_add_one, hq]; rfl
      have hi := hF F[j] (List.getElem_mem _)
      unfold hang at ih ⊢
      rw [e, List.foldl_append, List.foldl_append]
      exact (hg_step (ih (by omega)) hi.1 hi.2 (acAt F _ j _ ac hq)).2
  intro j hj
  refine ⟨key j hj, fun q hq => ?_⟩
  have hi := hF q (List.mem_of_getElem? hq)
  exact (hg_step (key j hj) hi.1 hi.2 (acAt F _ j _ ac hq)).1
end
end CT
/-! P21 -/
/-! P21: the law's look at a crowd tree. -/
namespace CW
open PySem PySem.Spec PyProof.Rows L2
def tChain3 (r r' r'' : R2) (ta tb tc td : TE) : TT := fun σ H Q => ta σ H fun x H1 => tb σ H1 fun y H2 => r x y H2 fun z H3 => ∃ k, z = .bl k ∧
  (if k = true then tc σ H3 fun w H4 => r' y w H4 fun z2 H5 => ∃ k2, z2 = .bl k2 ∧ (if k2 = true then td σ H5 fun u H6 => r'' w u H6 fun z3 H7 => ∃ k3, z3 = .bl k3 ∧ Q k3 H7 else Q false H5) else Q false H3)
section
variable {X : Cx} {a b c d : Expr} {ta tb tc td : TE} {pos : Pos}
theorem pt_chain3 {o1 o2 o3 : CmpOp} {r r' r'' : R2} (h1 : OpR X (compareOp o1) r) (h2 : OpR X (compareOp o2) r') (h3 : OpR X (compareOp o3) r'') (ha : PE X a ta) (hb : PE X b tb) (hc : PE X c tc) (hd : PE X d td)
    (hm : lastMarks [o1, o2, o3] [b, c, d] = false := by with_unfolding_all rfl) : PT X (.Compare a [o1, o2, o3] [b, c, d] pos) (tChain3 r r' r'' ta tb tc td) := by
  refine ⟨fun pins s σ H Q I h => isTrue_chain (thn (ha.run pins s σ H _ I h) fun v1 s1 ⟨x1, H1, I1, r1, q1⟩ => test_link (thn (hb.run pins s1 σ H1 _ I1 q1) fun v2 s2 ⟨x2, H2, I2, r2, q2⟩ =>
    thn (h1 pins s2 σ H2 x1 x2 v1 v2 _ I2 r1 r2 q2) fun v3 s3 ⟨x3, H3, I3, r3, k1, e1, q3⟩ => ?_)) hm⟩
  subst e1
  cases r3
  refine wpAny_truthy_bool ?_
  cases k1 with
  | false => exact ite_ff ⟨H3, I3, q3⟩
  | true =>
    refine ite_tt (test_link (thn (hc.run pins s3 σ H3 _ I3 q3) fun v4 s4 ⟨x4, H4, I4, r4, q4⟩ => thn (h2 pins s4 σ H4 x2 x4 v2 v4 _ I4 r2 r4 q4) fun v5 s5 ⟨x5, H5, I5, r5, k2, e2, q5⟩ => ?_))
    subst e2
    cases r5
    refine wpAny_truthy_bool ?_
    cases k2 with
    | false => exact ite_ff ⟨H5, I5, q5⟩
    | true =>
      refine ite_tt (test_last (thn (hd.run pins s5 σ H5 _ I5 q5) fun v6 s6 ⟨x6, H6, I6, r6, q6⟩ => thn (h3 pins s6 σ H6 x4 x6 v4 v6 _ I6 r4 r6 q6) fun v7 s7 ⟨x7, H7, I7, r7, k3, e3, q7⟩ => ?_))
      subst e3
      cases r7
      exact wpAny_truthy_bool ⟨H7, I7, q7⟩
/-- x not in a tuple of data -/
def rNinTD (K : PySem.W.Frag) : R2 := fun x y H Q => ∃ d ds, Dp K H x d ∧ Dp K H y (.tuple ds) ∧ SeqAt.shaped d = true ∧ SeqAt.shaped (.tuple ds) = true ∧ Q (.bl (!ds.any fun z => PyData.eqv z d)) H
theorem w_ninTD (K : PySem.W.Frag) {j : Nat} (hr : Room j X.A) (h : X.K = K := by rfl) : OpR X (compareOp .NotIn) (rNinTD K) := by
  subst h
  intro pins s σ H x y v u Q I rx ry z
  obtain ⟨d, ds, hx, hy, sx, sy, q⟩ := z
  obtain ⟨l1, r1⟩ := Dp.reads I d x v hx rx
  obtain ⟨l2, r2⟩ := Dp.reads I _ y u hy ry
  exact SeqAt.notIn_tuple_reads r2 r1 (SeqAt.canLay_of_shaped sy) (SeqAt.canLay_of_shaped sx) (room_in_shaped sx (by have := hr.un; omega)) ⟨.bl _, H, I, rfl, q⟩
end
section
variable {Γ : Gam} {ρ : Rho} {K : PySem.W.Frag}
theorem tv_chain3 {r r' r'' : R2} {ta tb tc td : TE} {a b c d : D} (ha : EvD Γ ta ρ a) (hb : EvD Γ tb ρ b) (hc : EvD Γ tc ρ c) (hd : EvD Γ td ρ d) (h1 : RD2 Γ r a b (.bl true)) (h2 : RD2 Γ r' b c (.bl true)) (h3 : RD2 Γ r'' c d (.bl true)) : TvD Γ (tChain3 r r' r'' ta tb tc td) ρ true := fun σ S H s k Q q =>
  ha σ S H s k _ fun x1 S1 H1 n1 a1 => hb σ S1 H1 (s.mono n1.ex) n1.ok _ fun x2 S2 H2 n2 a2 => h1 x1 x2 S2 H2 (a1.mono n2.ex) a2 n2.ok _ fun x3 S3 H3 n3 a3 => by
    cases a3
    refine ⟨true, rfl, ?_⟩
    have m3 := (n1.trans n2).trans n3
    show tc σ H3 _
    refine hc σ S3 H3 (s.mono m3.ex) n3.ok _ fun x4 S4 H4 n4 a4 => h2 x2 x4 S4 H4 (a2.mono (n3.ex.trans n4.ex)) a4 n4.ok _ fun x5 S5 H5 n5 a5 => ?_
    cases a5
    refine ⟨true, rfl, ?_⟩
    have m5 := (m3.trans n4).trans n5
    show td σ H5 _
    refine hd σ S5 H5 (s.mono m5.ex) n5.ok _ fun x6 S6 H6 n6 a6 => h3 x4 x6 S6 H6 (a4.mono (n5.ex.trans n6.ex)) a6 n6.ok _ fun x7 S7 H7 n7 a7 => ?_
    cases a7
    exact ⟨true, rfl, q S7 H7 ((m5.trans n6).trans n7)⟩
theorem rd_ninTD {β : Type} [DecidableEq β] {enc : β → D} {Pr : β → Prop} {x : β} {xs : List β} {k : Nat} (h : EqOn enc Pr) (hx : Pr x) (hxs : ∀ y ∈ xs, Pr y) (kx : Eqk k (enc x)) (ky : Eqk (k + 1) (.tup (xs.map enc))) (hk : Nat.ble (k + 1) 64 = true := by rfl) :
    RD2 Γ (rNinTD K) (enc x) (.tup (xs.map enc)) (.bl (!decide (x ∈ xs))) := fun v y S H a b kk Q q => by
  have e1 : (CW.D.tup (xs.map enc)).py = .tuple (xs.map fun z => (enc z).py) := by rw [D.py, pyAll_map]
  have d2 := (b.mono kk.ex).dp (K := K) ky.ok
  rw [e1] at d2
  have s2 := (ky.b hk).shaped
  rw [e1] at s2
  refine ⟨(enc x).py, _, (a.mono kk.ex).dp kx.ok, d2, Eqb.shaped ⟨kx.ok, Nat.le_trans kx.dep (Nat.le_trans (Nat.le_succ _) (Nat.le_of_ble_eq_true hk))⟩, s2, ?_⟩
  have e2 : ((xs.map fun z => (enc z).py).any fun z => PyData.eqv z (enc x).py) = decide (x ∈ xs) := by
    clear d2 s2 ky e1 b q
    induction xs with
    | nil => simp
    | cons z xs ih =>
      rw [List.map_cons, List.any_cons, ih (fun y hy => hxs y (List.mem_cons_of_mem _ hy)), h z x (hxs z List.mem_cons_self) hx]
      by_cases e : z = x
      · subst e; simp
      · have e' : ¬ x = z := fun q => e q.symm
        simp [e, e']
  rw [e2]
  exact q _ S H (.refl kk) (.bl _)
theorem mem_nI {l : List Nat} {i : Nat} : decide ((i : Int) ∈ l.map fun k : Nat => (k : Int)) = decide (i ∈ l) := by
  refine decide_eq_decide.mpr ⟨fun h => ?_, fun h => List.mem_map.mpr ⟨i, h, rfl⟩⟩
  obtain ⟨j, hj, e⟩ := List.mem_map.mp h
  rw [← Int.ofNat_inj.mp e]; exact hj
theorem rd_inN {i : Nat} {l : List Nat} : RD2 Γ (rIn K false) (nI i) (loD l) (.bl (decide (i ∈ l))) := by
  have h := rd_inI (Γ := Γ) (K := K) (x := (i : Int)) (xs := l.map fun k : Nat => (k : Int))
  rw [mem_nI, List.map_map] at h
  exact h
theorem rd_ninN {i : Nat} {l : List Nat} : RD2 Γ (rIn K true) (nI i) (loD l) (.bl (!decide (i ∈ l))) := by
  have h := rd_ninI (Γ := Γ) (K := K) (x := (i : Int)) (xs := l.map fun k : Nat => (k : Int))
  rw [mem_nI, List.map_map] at h
  exact h
theorem eqOn_nI : EqOn nI (fun _ => True) := fun a b _ _ => by
  rw [eqOn_int (a : Int) (b : Int) trivial trivial]
  exact decide_eq_decide.mpr Int.ofNat_inj
theorem eqOn_lo : EqOn loD (fun _ => True) := fun a b _ _ => eqOn_lst (enc := nI) eqOn_nI a b (fun _ _ => trivial) (fun _ _ => trivial)
theorem eqk_lo {k : Nat} (l : List Nat) : Eqk (k + 1) (loD l) := eqk_lst fun x _ => eqk_int _
end
def rLTree (C : Addr) (as : List D) (d : D) : Prop := ∃ (ps : List Str) (ts : List (Str × Str)) (p : List Str) (cs : List (List Str)), WOk ps ts ∧ CrOk cs ∧ CT.Cr ps (nearOf ts) p cs ∧ as = [worldD C ps ts, crD cs, .lst ((CT.tree cs).map prD)] ∧ d = .bl true
theorem tree_len {cs : List (List Str)} : (CT.tree cs).length ≤ cs.length := by
  have h := (CT.rank_eq (CT.tree_ins cs)).2
  rw [CT.tree_forest cs] at h
  omega
theorem hang_succ (m : Nat) {F : List CT.Pr} {i : Nat} {q : CT.Pr} (h : F[i]? = some q) : CT.hang m (F.take (i + 1)) = CT.hStep (CT.hang m (F.take i)) q := by
  have e : F.take (i + 1) = F.take i ++ [q] := by rw [List.take_add_one, h]; rfl
  unfold CT.hang
  rw [e, List.foldl_append]
  rfl
theorem len_pos_ne {α : Type} {l : List α} (h : 0 < l.length) : l.isEmpty = false := by cases l with | nil => cases h | cons => rfl
theorem tr_le {Γ : Gam} {i j : Int} (h : i ≤ j) : RD2 Γ (rI0 fun i j => .bl (decide (i ≤ j))) (.int i) (.int j) (.bl true) := by
  have := rd_le (Γ := Γ) (i := i) (j := j); rwa [decide_eq_true h] at this
theorem tr_lt {Γ : Gam} {i j : Int} (h : i < j) : RD2 Γ (rI0 fun i j => .bl (decide (i < j))) (.int i) (.int j) (.bl true) := by
  have := rd_lt (Γ := Γ) (i := i) (j := j); rwa [decide_eq_true h] at this
section
variable {P : Program} {w : World} {K : PySem.W.Frag} {mg : Str → Option Value} {base : Heap} {C : Addr} {f : Addr} {fd : FuncData}
theorem sc__law_is_tree : FnScope ["_law_world", "_law_crowds_here", "_law_value", "_law_hang", "_law_pair", "_law_post", "_law_one", "_law_other", "_law_own", "_law_k", "_law_lot"] ["_law_world", "_law_crowds_here", "_law_value"] (defScope (topS 65)) := ⟨rfl, rfl, rfl, by decide +kernel, rfl, by decide +kernel, by decide +kernel⟩
theorem ok__law_is_tree (T : Kx K mg C) (F : FnP K "_law_is_tree" "_law_is_tree" (topS 65) f fd) : FnOk P w K mg base CX0 1 f fd ["_law_world", "_law_crowds_here", "_law_value"] (spF G0 (rLTree C)) := by
  have nd := (sc__law_is_tree).nd
  have B := T.b
  refine fn_ok F sc__law_is_tree (fun as d ⟨_, _, _, _, _, _, _, e, _⟩ => by rw [e]; rfl) fun cdv A outer s H E hr => ?_
  have hu := hu_of hr
  refine ⟨_, (pss_cons (ps_if (pt_not (pt_val (w_isiT K B (pa_cons (pv 2) (pa_cons (pe_tup (pa_cons (pe_bltn (v := .ty "list") (by rfl) B.list (by decide +kernel) rfl) (pa_cons (pe_bltn (v := .ty "tuple") (by rfl) B.tuple (by decide +kernel) rfl) pa_nil))) pa_nil))))) (pss_one (ps_ret pe_bl)) pss_nil)
    (pss_cons (ps_setLc (i := 3) (own := [("_law_k", 9)]) rfl nd rfl rfl (sw_true rfl rfl rfl (by decide +kernel)) (pi_range1 rfl B.range (pa_cons (w_len K B (pa_cons (pv 1) pa_nil)) pa_nil)) (blkOk_by (by kernel_rfl)) (fun _ _ _ _ _ => (pg_name (i := 9) nd rfl (Or.inl rfl))) (fun _ _ _ _ _ => pts_nil) (fun _ _ _ _ _ => (pe_lst (pa_cons (pv 9) pa_nil))))
    (pss_cons (ps_for PassesOwn.never rfl (w_piL K (pv 2)) (pg_name (i := 4) nd rfl (Or.inr rfl))
    (pss_cons (ps_if (PW.pt (pw_or (pt_not (pt_val (w_isi K B (pa_cons (pv 4) (pa_cons (pe_bltn (v := .ty "tuple") (by rfl) B.tuple (by decide +kernel) rfl) pa_nil))))) (pw_or (pt_cmpR op_ne (w_len K B (pa_cons (pv 4) pa_nil)) pe_int (nomark _)) (pw_or1 (pt_cmpR (w_neD K hr) (pe_lc (own := [("_law_k", 9)]) rfl nd (w_piT K (pv 4)) (blkOk_by (by kernel_rfl)) (fun _ _ _ _ _ => (pg_name (i := 9) nd rfl (Or.inl rfl))) (fun _ _ _ _ _ => pts_one (PW.pt (pw_or (pt_val (w_isi K B (pa_cons (pv 9) (pa_cons (pe_bltn (v := .ty "bool") (by rfl) B.bool (by decide +kernel) rfl) pa_nil)))) (pw_or1 (pt_not (pt_val (w_isi K B (pa_cons (pv 9) (pa_cons (pe_bltn (v := .ty "int") (by rfl) B.int (by decide +kernel) rfl) pa_nil))))))))) (fun _ _ _ _ _ => pe_int)) (pe_lst pa_nil) (nomark _)))))) (pss_one (ps_ret pe_bl)) pss_nil)
    (pss_cons (ps_if (PW.pt (pw_or (pt_not (pt_chain3 op_le op_lt op_lt pe_int (pe_ix (w_ixT K) (pv 4) pe_int (fun _ _ => rfl)) (pe_ix (w_ixT K) (pv 4) pe_int (fun _ _ => rfl)) (w_len K B (pa_cons (pv 1) pa_nil)))) (pw_or1 (pt_cmpR (w_eqD K hr) (pe_lc (own := [("_law_post", 5)]) rfl nd (w_piT K (pe_ix (w_ixL K) (pv 1) (pe_ix (w_ixT K) (pv 4) pe_int (fun _ _ => rfl)) (fun _ _ => rfl))) (blkOk_by (by kernel_rfl)) (fun _ _ _ _ _ => (pg_name (i := 5) nd rfl (Or.inl rfl))) (fun _ _ _ _ _ => pts_one (pt_cmpR (w_in K) (pv 5) (pe_ix (w_ixL K) (pv 1) (pe_ix (w_ixT K) (pv 4) pe_int (fun _ _ => rfl)) (fun _ _ => rfl)) rfl)) (fun _ _ _ _ _ => (pv 5))) (pe_lst pa_nil) (nomark _))))) (pss_one (ps_ret pe_bl)) pss_nil)
    (pss_cons (ps_set (i := 6) nd rfl (Or.inr rfl) (pe_ix (w_ixL K) (pe_lc (own := [("_law_lot", 10)]) rfl nd (w_piL K (pv 3)) (blkOk_by (by kernel_rfl)) (fun _ _ _ _ _ => (pg_name (i := 10) nd rfl (Or.inl rfl))) (fun _ _ _ _ _ => pts_one (pt_cmpR (w_in K) (pe_ix (w_ixT K) (pv 4) pe_int (fun _ _ => rfl)) (pv 10) rfl)) (fun _ _ _ _ _ => (pv 10))) pe_int (fun _ _ => rfl)))
    (pss_cons (ps_if (pt_cmpR (w_in K) (pe_ix (w_ixT K) (pv 4) pe_int (fun _ _ => rfl)) (pv 6) rfl) (pss_one (ps_ret pe_bl)) pss_nil)
    (pss_cons (ps_set (i := 7) nd rfl (Or.inr rfl) (pe_ix (w_ixL K) (pe_lc (own := [("_law_lot", 10)]) rfl nd (w_piL K (pv 3)) (blkOk_by (by kernel_rfl)) (fun _ _ _ _ _ => (pg_name (i := 10) nd rfl (Or.inl rfl))) (fun _ _ _ _ _ => pts_one (pt_cmpR (w_in K) (pe_ix (w_ixT K) (pv 4) pe_int (fun _ _ => rfl)) (pv 10) rfl)) (fun _ _ _ _ _ => (pv 10))) pe_int (fun _ _ => rfl)))
    (pss_one (ps_set (i := 3) nd rfl (Or.inl rfl) (pe_op op_cat (pe_lc (own := [("_law_lot", 10)]) rfl nd (w_piL K (pv 3)) (blkOk_by (by kernel_rfl)) (fun _ _ _ _ _ => (pg_name (i := 10) nd rfl (Or.inl rfl))) (fun _ _ _ _ _ => pts_one (pt_cmpR (w_ninTD K hr) (pv 10) (pe_tup (pa_cons (pv 6) (pa_cons (pv 7) pa_nil))) rfl)) (fun _ _ _ _ _ => (pv 10))) (pe_lst (pa_cons (pe_op op_cat (pv 6) (pv 7)) pa_nil)))))))))))
    (pss_cons (ps_for PassesOwn.never rfl (w_piL K (pe_dget hu (pv 0) pe_str (fun _ _ => rfl))) (pg_name (i := 5) nd rfl (Or.inr rfl))
    (pss_cons (ps_set (i := 8) nd rfl (Or.inr rfl) (pe_lc (own := [("_law_k", 9)]) rfl nd (pi_range1 rfl B.range (pa_cons (w_len K B (pa_cons (pv 1) pa_nil)) pa_nil)) (blkOk_by (by kernel_rfl)) (fun _ _ _ _ _ => (pg_name (i := 9) nd rfl (Or.inl rfl))) (fun _ _ _ _ _ => pts_one (pt_cmpR (w_in K) (pv 5) (pe_ix (w_ixL K) (pv 1) (pv 9) (fun _ _ => rfl)) rfl)) (fun _ _ _ _ _ => (pv 9))))
    (pss_one (ps_if (pt_cmpR op_ne (w_len K B (pa_cons (pe_lc (own := [("_law_pair", 4)]) rfl nd (w_piL K (pv 2)) (blkOk_by (by kernel_rfl)) (fun _ _ _ _ _ => (pg_name (i := 4) nd rfl (Or.inl rfl))) (fun _ _ _ _ _ => pts_one (PW.pt (pw_and (pt_cmpR (w_in K) (pe_ix (w_ixT K) (pv 4) pe_int (fun _ _ => rfl)) (pv 8) rfl) (pw_and1 (pt_cmpR (w_in K) (pe_ix (w_ixT K) (pv 4) pe_int (fun _ _ => rfl)) (pv 8) rfl))))) (fun _ _ _ _ _ => (pv 4))) pa_nil)) (pe_op op_sub (w_len K B (pa_cons (pv 8) pa_nil)) pe_int) (nomark _)) (pss_one (ps_ret pe_bl)) pss_nil))))
    (pss_one (ps_ret pe_bl)))))), ?_⟩
  rintro as d ⟨ps, ts, p, cs, hw, hc, cr, rfl, rfl⟩
  have g := hw.g
  have hs := hw.p.sz
  have cz := hc.sz
  have fz : (CT.tree cs).length ≤ 16 := Nat.le_trans tree_len cz
  have ht := CT.hg_take (CT.tree_ins cs) (CT.tree_forest cs)
  refine SvD.e <| sv_seq (sv_if (k := false) (TvD.is (tv_not (tv_B (ev_cb (av_cons (ev_var rfl) (av_cons (ev_tup (av_cons ev_ty (av_cons ev_ty av_nil))) av_nil)) isiT_lst))) rfl) (fun h => by cases h) fun _ => sv_next) ?_
  refine sv_seq (sv_asg (EvN.ev (ev_lcE0N (xs := List.range cs.length) (enc := nI) (enc2 := loD) (q := fun k => [k]) (wv_rng1 (n := cs.length) (av_cons (EvD.is (ev_cb (av_cons (ev_var rfl) av_nil) ra_len) (by rw [List.length_map])) av_nil) (by omega)) (fun k hk => ⟨_, gv_name (by decide), ev_lst (av_cons (ev_var rfl) av_nil)⟩) (by rw [List.length_range]; omega)))) ?_
  refine sv_seq (sv_for (vs := [4, 6, 7]) (xs := CT.tree cs) (enc := prD) (wv_list (ev_var rfl)) (fun j => ([some (worldD C ps ts), some (crD cs), some (.lst ((CT.tree cs).map prD)), some (.lst ((CT.hang cs.length ((CT.tree cs).take j)).map loD)), none, none, none, none, none, none, none], [])) (CT.tree cs).length rfl (Nat.le_refl _) (fun i q hi hq => ?_) (.inl ⟨rfl, rfl⟩)) ?_
  · have ⟨hp, h0⟩ := CT.tree_mem (List.mem_of_getElem? hq)
    have h2 := hp.2
    have h1 : q.1 < cs.length := Nat.lt_trans hp.1 hp.2
    obtain ⟨hg, hno⟩ := ht i (Nat.le_of_lt hi)
    have hno := hno q hq
    obtain ⟨r1, e1, m1, n1⟩ := hg.lot h1
    obtain ⟨r2, e2, m2, n2⟩ := hg.lot h2
    have hl := hg.ln
    have l1 := hg.small m1
    have l2 := hg.small m2
    have z1 : (cs.getD q.1 []).length ≤ 16 := by
      rw [List.getD_eq_getElem?_getD, List.getElem?_eq_getElem h1]; exact hc.each _ (List.getElem_mem h1)
    have q0 : ∀ {ρ : Rho}, ρ[4]? = some (some (prD q)) → EvD G0 (tOp (rIxT K) (tVar 4) (tC (.int 0))) ρ (nI q.1) := fun h => ev_op (ev_var h) ev_int (rd_ixT (n := 0) rfl rfl)
    have q1 : ∀ {ρ : Rho}, ρ[4]? = some (some (prD q)) → EvD G0 (tOp (rIxT K) (tVar 4) (tC (.int 1))) ρ (nI q.2) := fun h => ev_op (ev_var h) ev_int (rd_ixT (n := 1) rfl rfl)
    refine ⟨_, [some (worldD C ps ts), some (crD cs), some (.lst ((CT.tree cs).map prD)), some (.lst ((CT.hang cs.length ((CT.tree cs).take (i + 1))).map loD)), some (prD q), none, some (loD (CT.lotOf (CT.hang cs.length ((CT.tree cs).take i)) q.1)), some (loD (CT.lotOf (CT.hang cs.length ((CT.tree cs).take i)) q.2)), none, none, none], gv_name (by decide), fun j hj => rfl, .inl ?_, rfl⟩
    rw [hang_succ _ hq]
    generalize CT.hang cs.length ((CT.tree cs).take i) = hs at *
    have lot : ∀ (j : Nat) (r : List (List Nat)) {ρ : Rho} (tj : TE) , ρ[3]? = some (some (.lst (hs.map loD))) → (∀ L, EvD G0 tj ((wipeD ρ [10]).set 10 (some (loD L))) (nI j)) → (∀ L, ((wipeD ρ [10]).set 10 (some (loD L)))[10]? = some (some (loD L))) → (hs.filter fun L => decide (j ∈ L)) = CT.lotOf hs j :: r → EvD G0 (tOp (rIxL K) (tLc (iList K (tVar 3)) (gName 10) (tTest (tOp (rIn K false) tj (tVar 10))) (tVar 10) [10]) (tC (.int 0))) ρ (loD (CT.lotOf hs j)) := fun j r ρ tj h1 h2 h3 h4 =>
      ev_op (EvN.ev (ev_lcF (xs := hs) (enc := loD) (f := fun L => decide (j ∈ L)) (wv_list (ev_var h1)) (fun L hL => ⟨_, gv_name (by decide), tv_test (ev_op (h2 L) (ev_var (h3 L)) rd_inN), fun _ => ev_var (h3 L)⟩) (by omega))) ev_int (rd_ixL (n := 0) rfl (by rw [h4]; rfl))
    refine sv_seq (sv_if (k := false) (TvD.is (tv_or (tv_not (tv_B (ev_cb (av_cons (ev_var rfl) (av_cons ev_ty av_nil)) isi_tupY))) fun _ => tv_or (tv_test (ev_op (ev_cb (av_cons (ev_var rfl) av_nil) ra_lenT) ev_int rd_neI)) fun _ =>
        tv_test (ev_op (EvN.ev (ev_lcEN (xs := [q.1, q.2]) (enc := nI) (enc2 := nI) (f := fun _ => false) (q := fun _ => 1) (wv_tup (ev_var rfl)) (fun k hk => ⟨_, gv_name (by decide), TvD.is (tv_or (tv_B (ev_cb (av_cons (ev_var rfl) (av_cons ev_ty av_nil)) isi_intB)) fun _ => tv_not (tv_B (ev_cb (av_cons (ev_var rfl) (av_cons ev_ty av_nil)) isi_intY))) rfl, fun h => by cases h⟩) (by show 2 ≤ 90000; decide))) (ev_lst av_nil) (rd_notNil (eqk_lo (k := 0) _)))) rfl) (fun h => by cases h) fun _ => sv_next) ?_
    refine sv_seq (sv_if (k := false) (TvD.is (tv_or (tv_not (tv_chain3 (a := .int 0) (d := .int ((cs.map tS).length : Nat)) ev_int (q0 rfl) (q1 rfl) (ev_cb (av_cons (ev_var rfl) av_nil) ra_len) (tr_le (Int.natCast_nonneg _)) (tr_lt (Int.ofNat_lt.mpr hp.1)) (tr_lt (by rw [List.length_map]; exact Int.ofNat_lt.mpr hp.2)))) fun _ => tv_test (ev_op (EvN.ev (ev_lcF (xs := cs.getD q.1 []) (enc := .str) (f := fun y => decide (y ∈ cs.getD q.2 [])) (wv_tup (ev_op (ev_var rfl) (q0 rfl) (rd_ixL (n := q.1) rfl (getD_map cs tS q.1 [] h1))))
        (fun y hy => ⟨_, gv_name (by decide), tv_test (ev_op (ev_var rfl) (ev_op (ev_var rfl) (q1 rfl) (rd_ixL (n := q.2) rfl (getD_map cs tS q.2 [] h2))) rd_inT), fun _ => ev_var rfl⟩) (by omega))) (ev_lst av_nil) (rd_isNil (eqk_posts g fun y hy => (cr.at_ h1).sub y (List.mem_filter.mp hy).1)))) (by rw [len_pos_ne h0]; rfl)) (fun h => by cases h) fun _ => sv_next) ?_
    refine sv_seq (sv_asg (lot q.1 r1 _ rfl (fun L => q0 rfl) (fun L => rfl) e1)) ?_
    refine sv_seq (sv_if (k := false) (TvD.is (tv_test (ev_op (q1 rfl) (ev_var rfl) rd_inN)) (decide_eq_false hno)) (fun h => by cases h) fun _ => sv_next) ?_
    refine sv_seq (sv_asg (lot q.2 r2 _ rfl (fun L => q1 rfl) (fun L => rfl) e2)) ?_
    refine sv_asg (EvD.is (EvN.ev (en_cat (ds := (hs.filter fun L => !decide (L ∈ [CT.lotOf hs q.1, CT.lotOf hs q.2])).map loD) (es := [loD (CT.lotOf hs q.1 ++ CT.lotOf hs q.2)]) (EvN.ev (ev_lcF (xs := hs) (enc := loD) (f := fun L => !decide (L ∈ [CT.lotOf hs q.1, CT.lotOf hs q.2])) (wv_list (ev_var rfl)) (fun L hL => ⟨_, gv_name (by decide), TvD.is (tv_test (ev_op (ev_var rfl) (ev_tup (av_cons (ev_var rfl) (av_cons (ev_var rfl) av_nil))) (rd_ninTD (x := L) (xs := [CT.lotOf hs q.1, CT.lotOf hs q.2]) (enc := loD) eqOn_lo trivial (fun _ _ => trivial) (eqk_lo (k := 0) _) (eqk_tup fun _ _ => eqk_lo (k := 0) _)))) (congrArg not (decide_eq_decide.mpr Iff.rfl)), fun _ => ev_var rfl⟩) (by omega)))
      (ev_lst (av_cons (EvD.is (EvN.ev (en_cat (ds := (CT.lotOf hs q.1).map nI) (es := (CT.lotOf hs q.2).map nI) (ev_var rfl) (ev_var rfl) (by rw [List.length_map, List.length_map]; omega))) (congrArg D.lst List.map_append.symm)) av_nil)) ?_)) ?_)
    · have := List.length_filter_le (fun L => !decide (L ∈ [CT.lotOf hs q.1, CT.lotOf hs q.2])) hs
      rw [List.length_map]
      show _ + 1 ≤ _
      omega
    · unfold CT.hStep
      rw [List.map_append]
      rfl
  · rw [List.take_length]
    refine sv_seq (sv_forA (vs := [5, 8]) (xs := ps) (enc := .str) (wv_list (ev_dget (ev_var rfl) ev_str rfl)) (fun j _ => rfl) fun i x hx => ?_) (sv_ret ev_bl)
    have own := CT.tree_own cr x (List.mem_of_getElem? hx)
    refine ⟨_, [some (worldD C ps ts), some (crD cs), some (.lst ((CT.tree cs).map prD)), some (.lst ((CT.hang cs.length (CT.tree cs)).map loD)), none, some (.str x), none, none, some (loD (CT.ownP cs x)), none, none], gv_name (by decide), .inl ?_, rfl⟩
    refine sv_seq (sv_asg (d := loD (CT.ownP cs x)) (EvN.ev (ev_lcF (xs := List.range cs.length) (enc := nI) (f := fun i => decide (x ∈ cs.getD i [])) (wv_rng1 (n := cs.length) (av_cons (EvD.is (ev_cb (av_cons (ev_var rfl) av_nil) ra_len) (by rw [List.length_map])) av_nil) (by omega)) (fun k hk => ⟨_, gv_name (by decide), tv_test (ev_op (ev_var rfl) (ev_op (ev_var rfl) (ev_var rfl) (rd_ixL (n := k) rfl (getD_map cs tS k [] (List.mem_range.mp hk)))) rd_inT), fun _ => ev_var rfl⟩) (by rw [List.length_range]; omega)))) ?_
    refine sv_if (k := false) (TvD.is (tv_test (ev_op (ev_cb (av_cons (EvN.ev (ev_lcF (xs := CT.tree cs) (enc := prD) (f := CT.inOwn cs x) (wv_list (ev_var rfl)) (fun q hq => ⟨_, gv_name (by decide), tv_and (tv_test (ev_op (ev_op (ev_var rfl) ev_int (rd_ixT (n := 0) rfl rfl)) (ev_var rfl) rd_inN)) fun _ => tv_test (ev_op (ev_op (ev_var rfl) ev_int (rd_ixT (n := 1) rfl rfl)) (ev_var rfl) rd_inN), fun _ => ev_var rfl⟩) (by omega))) av_nil) ra_len) (ev_op (ev_cb (av_cons (ev_var rfl) av_nil) ra_len) ev_int rd_sub) rd_neI)) ?_) (fun h => by cases h) fun _ => sv_next
    rw [List.length_map, List.length_map, ← own, decide_eq_true (by rw [Int.natCast_add]; show _ = _ + (1 : Int) - 1; omega)]
    rfl
end
end CW
/-! M14 -/
/-! M14: rows of places. -/
namespace CT
variable {α : Type} [DecidableEq α]
def iN (ps c : List α) : List Nat := c.map fun x => ps.idxOf x
def rI (r : List Nat) : List Int := r.map fun k : Nat => (k : Int)
section
variable {ps : List α}
theorem rI_iN (c : List α) : rI (iN ps c) = posI ps c := by unfold rI iN posI; rw [List.map_map]; rfl
theorem idx_getD (hn : ps.Nodup) (e : α) {k : Nat} (hk : k < ps.length) : ps.idxOf (ps.getD k e) = k := by
  rw [List.getD_eq_getElem?_getD, List.getElem?_eq_getElem hk]
  exact (List.getElem_inj hn).mp (List.getElem_idxOf (List.idxOf_lt_length_iff.mpr (List.getElem_mem hk)))
theorem getD_idx (e : α) {x : α} (hx : x ∈ ps) : ps.getD (ps.idxOf x) e = x := by
  have h := List.idxOf_lt_length_iff.mpr hx
  rw [List.getD_eq_getElem?_getD, List.getElem?_eq_getElem h]
  exact List.getElem_idxOf h
theorem range_map (e : α) : (List.range ps.length).map (fun k => ps.getD k e) = ps := by
  refine List.ext_getElem (by simp) fun i h1 h2 => ?_
  rw [List.getElem_map, List.getElem_range, List.getD_eq_getElem?_getD, List.getElem?_eq_getElem h2]
  rfl
theorem filt_idx (hn : ps.Nodup) (e : α) (f : α → Bool) : iN ps (ps.filter f) = (List.range ps.length).filter fun k => f (ps.getD k e) := by
  have h : ps.filter f = ((List.range ps.length).filter fun k => f (ps.getD k e)).map fun k => ps.getD k e := by
    have := List.filter_map (p := f) (f := fun k => ps.getD k e) (l := List.range ps.length)
    rw [range_map] at this
    exact this
  unfold iN
  rw [h, List.map_map]
  conv => rhs; rw [← List.map_id ((List.range ps.length).filter fun k => f (ps.getD k e))]
  exact List.map_congr_left fun k hk => idx_getD hn e (List.mem_range.mp (List.mem_filter.mp hk).1)
theorem iN_back (e : α) {c : List α} (hc : ∀ x ∈ c, x ∈ ps) : (iN ps c).map (fun k => ps.getD k e) = c := by
  unfold iN
  rw [List.map_map]
  conv => rhs; rw [← List.map_id c]
  exact List.map_congr_left fun x hx => getD_idx e (hc x hx)
theorem mem_iN {x : α} {c : List α} (hx : x ∈ ps) (hc : ∀ y ∈ c, y ∈ ps) : ps.idxOf x ∈ iN ps c ↔ x ∈ c := by
  unfold iN
  rw [List.mem_map]
  refine ⟨fun ⟨y, hy, e⟩ => ?_, fun h => ⟨x, h, rfl⟩⟩
  have h1 := getD_idx x hx
  rw [← e, getD_idx x (hc y hy)] at h1
  exact h1 ▸ hy
theorem iN_inj {c d : List α} (hc : ∀ x ∈ c, x ∈ ps) (hd : ∀ x ∈ d, x ∈ ps) : iN ps c = iN ps d ↔ c = d := by
  refine ⟨fun h => ?_, fun h => h ▸ rfl⟩
  refine posI_inj hc hd ?_
  rw [← rI_iN, ← rI_iN, h]
theorem emp_map {β γ : Type} (f : β → γ) (l : List β) : (l.map f).isEmpty = l.isEmpty := by cases l <;> rfl
theorem lSome_iN {rows : List (List α)} (h : ∀ r ∈ rows, ∀ x ∈ r, x ∈ ps) : lSome (rows.map (iN ps)) = (lSome rows).map (iN ps) := by
  unfold lSome
  rw [List.filter_map]
  refine congrArg (List.map (iN ps)) (List.filter_congr fun r hr => ?_)
  rw [Function.comp, List.filter_map, emp_map]
  refine congrArg List.isEmpty (List.filter_congr fun o ho => ?_)
  rw [Function.comp]
  refine congr (congrArg and (congrArg not (decide_eq_decide.mpr (iN_inj (h o ho) (h r hr))))) ?_
  conv => lhs; unfold iN
  rw [List.filter_map, emp_map]
  refine congrArg List.isEmpty (List.filter_congr fun x hx => ?_)
  exact congrArg not (decide_eq_decide.mpr (mem_iN (h r hr x hx) (h o ho)))
theorem sort_back (e : α) {l : List (List α)} (h : ∀ r ∈ l, ∀ x ∈ r, x ∈ ps) : ((l.map (iN ps)).mergeSort (leK rI)).map (fun r => r.map fun k => ps.getD k e) = l.mergeSort (leK (posI ps)) := by
  rw [← List.map_mergeSort (r := leK (posI ps)) (s := leK rI) (f := iN ps) fun a _ b _ => by show decide _ = decide _; rw [rI_iN, rI_iN], List.map_map]
  conv => rhs; rw [← List.map_id (l.mergeSort (leK (posI ps)))]
  exact List.map_congr_left fun c hc => iN_back e (h c (List.mem_mergeSort.mp hc))
theorem qRows_sub {n : α → α → Bool} {p : List α} : ∀ r ∈ qRows ps n p, ∀ x ∈ r, x ∈ ps := fun r hr x hx => by
  obtain ⟨i, y, _, rfl⟩ := mem_qRows.mp hr
  exact (List.mem_filter.mp hx).1
theorem qRows_iN (hn : ps.Nodup) (n : α → α → Bool) (e : α) (p : List α) : (qRows ps n p).map (iN ps) = (List.range p.length).map fun k => (List.range ps.length).filter fun i => decide (ps.getD i e ∈ p.drop k) && n (p.getD k e) (ps.getD i e) := by
  unfold qRows
  rw [List.map_map]
  refine List.ext_getElem (by simp) fun i h1 h2 => ?_
  rw [List.getElem_map, List.getElem_map, List.getElem_range, List.getElem_zipIdx]
  have hi : i < p.length := by simpa using h2
  show iN ps (ps.filter _) = _
  rw [filt_idx hn e, Nat.zero_add, List.getD_eq_getElem?_getD (l := p), List.getElem?_eq_getElem hi]
  rfl
/-- all crowds of a good map, as a list -/
theorem cr_of {n : α → α → Bool} {p : List α} (hn : ps.Nodup) (rf : ∀ x, n x x = true) (sy : ∀ x y, n x y = n y x) (h : peelingOf ps n = some p) : Cr ps n p (crowds ps n p) := by
  obtain ⟨hp, pe⟩ := peeling_ok hn h
  obtain ⟨q1, q2⟩ := quick_ok hp hn rf sy pe
  have e := crowds_any hp hn rf sy pe q1 q2
  refine ⟨hn, rf, sy, hp, pe, ?_, fun c => ?_⟩
  · rw [← e]; exact (List.mergeSort_perm _ _).nodup_iff.mpr q1
  · rw [← e, List.mem_mergeSort]; exact q2 c
end
end CT
/-! P22 -/
/-! P22: the crowds by a peeling. -/
namespace CW
open PySem PySem.Spec PyProof.Rows L2
section
variable {Γ : Gam} {ρ : Rho} {μ : Mus} {ta tb tc : TE} {x d e : D} {i j l : Nat} {t : TS} {o : Out}
/-- a, b, c = e1, e2, e3 by a tuple, the third new -/
theorem sv_three (ha : EvD Γ ta ρ x) (hb : EvD Γ tb ρ d) (hc : EvN Γ tc ρ e) {K : PySem.W.Frag} {n : Nat} (hn : n = 3) (hlen : Nat.blt l ρ.length = true := by rfl) (hi : isIn μ i = false := by rfl) (hj : isIn μ j = false := by rfl) (hl : isIn μ l = false := by rfl) :
    SvD Γ (tAsg (tTup (tCons ta (tCons tb (tCons tc tNil)))) (gTup K n (gCons (gName i) (gCons (gName j) (gCons (gName l) gNil))))) ρ μ (.nx (((ρ.set i (some x)).set j (some d)).set l none) ((l, e) :: μ)) := fun S0 H0 F S H σ k0 n0 f s m Dn q => by
  subst hn
  refine ha σ S H s n0.ok _ fun u S1 H1 n1 a => hb σ S1 H1 (s.mono n1.ex) n1.ok _ fun v S2 H2 n2 b => hc σ S2 H2 (s.mono (n1.ex.trans n2.ex)) n2.ok _ fun p S3 H3 oo n3 hp hs ho c => ?_
  refine ⟨szl (by show 3 ≤ 100000; decide), fun tt ht => ?_⟩
  have hid := Nx.hid n3.ok ht (.tup [u, v, .ref p])
  have ho2 : upd H3 tt (.tup [u, v, .ref p]) p = some oo := by rw [upd_ne (ne_of_none ho ht)]; exact ho
  refine ⟨tt, [u, v, .ref p], rfl, .of upd_same, rfl, _, _, rfl, _, _, rfl, _, _, rfl, rfl, ?_⟩
  have m2 := (m.step k0 n1).step k0 n2
  have m3 := ((((m2.step k0 n3).step k0 hid).set (not_in hi) (some u)).set (not_in hj) (some v)).put (not_in hl) (by rw [List.length_set, List.length_set, s.len]; exact Nat.le_of_ble_eq_true hlen) (live_of ((n0.trans n1).trans n2) hp) hs ho2 c fun y z hl z2 => by
    have hil : i ≠ y := fun z => not_in hi (List.mem_map.mpr ⟨_, hl, z.symm⟩)
    have hjl : j ≠ y := fun z => not_in hj (List.mem_map.mpr ⟨_, hl, z.symm⟩)
    rw [List.getElem?_set_ne hjl, List.getElem?_set_ne hil] at z2
    obtain ⟨p', o', h1, _, _, h4, _⟩ := m2.at_ y z hl
    rw [h1] at z2; cases z2
    rw [hp] at h4; cases h4
  exact q _ S3 _ ((((n0.trans n1).trans n2).trans n3).trans hid) (f.trans (n1.ex.trans (n2.ex.trans n3.ex))) ((((s.mono (n1.ex.trans (n2.ex.trans n3.ex))).set i (a.mono (n2.ex.trans n3.ex))).set j (b.mono n3.ex)).setN l _) m3
/-- the mutable locals are changed no more -/
theorem sv_frz (h : SvD Γ t (frz ρ μ) [] o) : SvD Γ t ρ μ o := fun S0 H0 F S H σ k0 n f s m Dn q => by
  obtain ⟨S', n', e', s', _⟩ := m.frz k0 n s
  exact h S0 H0 F S' H σ k0 n' (f.trans e') s' .nil Dn q
end
def rLCr (C : Addr) (m : Nat) (as : List D) (d : D) : Prop := ∃ (ps : List Str) (ts : List (Str × Str)) (p : List Str), WOk ps ts ∧ ps.length ≤ m ∧ as = [worldD C ps ts] ∧ CT.peelingOf ps (nearOf ts) = some p ∧ d = crD (CT.crowds ps (nearOf ts) p)
theorem lo_row (l : List Nat) : loD l = rowD (CT.rI l) := by unfold rowD CT.rI; rw [List.map_map]; rfl
theorem lo_rowT (l : List Nat) : D.tup (l.map nI) = rowT (CT.rI l) := by unfold rowT CT.rI; rw [List.map_map]; rfl
theorem en_sortLo {Γ : Gam} {ρ : Rho} {K : PySem.W.Frag} {t : TA} {bs : List (List Nat)} (ha : AvD Γ t ρ [.lst (bs.map loD)]) : EvN Γ (tCB (rSortD K) t) ρ (.lst ((bs.mergeSort (CT.leK CT.rI)).map loD)) := by
  have e : loD = fun l => rowD (CT.rI l) := funext lo_row
  rw [e] at ha ⊢
  have h := en_sorted (K := K) ha (fun b _ => ok_rowD _) (row_alike CT.rI bs) (row_sortable CT.rI bs) (fun b _ => row_depth _)
  rw [row_le CT.rI] at h
  exact h
theorem en_sortLoT {Γ : Gam} {ρ : Rho} {K : PySem.W.Frag} {t : TA} {bs : List (List Nat)} (ha : AvD Γ t ρ [.lst (bs.map fun l => .tup (l.map nI))]) (hne : ∀ b ∈ bs, b ≠ []) : EvN Γ (tCB (rSortD K) t) ρ (.lst ((bs.mergeSort (CT.leK CT.rI)).map fun l => .tup (l.map nI))) := by
  have e : (fun l : List Nat => D.tup (l.map nI)) = fun l => rowT (CT.rI l) := funext lo_rowT
  rw [e] at ha ⊢
  have h := en_sorted (K := K) ha (fun b _ => ok_rowT _) (row_alikeT CT.rI bs) (row_sortableT CT.rI bs fun b hb z => hne b hb (List.map_eq_nil_iff.mp z)) (fun b _ => row_depthT _)
  rw [row_leT2 CT.rI] at h
  exact h
section
variable {P : Program} {w : World} {K : PySem.W.Frag} {mg : Str → Option Value} {base : Heap} {C : Addr} {f : Addr} {fd : FuncData}
theorem sc__law_quick : FnScope ["_law_world", "_law_k", "_law_some", "_law_peeling", "_law_posts", "_law_rows", "_law_row", "_law_n", "_law_one"] ["_law_world"] (defScope (topS 66)) := ⟨rfl, rfl, rfl, by decide +kernel, rfl, by decide +kernel, by decide +kernel⟩
theorem ok__law_quick (T : Kx K mg C) (F : FnP K "_law_quick" "_law_quick" (topS 66) f fd) (G_law_is_near : Has P w K mg base "_law_is_near" ["_law_world", "_law_one", "_law_other"] 1 (spF G0 (rLNear C))) (G_law_peeled : Has P w K mg base "_law_peeled" ["_law_world"] 3 (spF G0 (rLPeeled C))) : FnOk P w K mg base CX0 4 f fd ["_law_world"] (spF G0 (rLCr C 16)) := by
  have nd := (sc__law_quick).nd
  have B := T.b
  refine fn_ok F sc__law_quick (fun as d ⟨_, _, _, _, _, e, _⟩ => by rw [e]; rfl) fun cdv A outer s H E hr => ?_
  have hu := hu_of hr
  refine ⟨_, (pss_cons (ps_asg (pe_tup (pa_cons (pe_h G_law_peeled hr (pa_cons (pv 0) pa_nil)) (pa_cons (pe_dget hu (pv 0) pe_str (fun _ _ => rfl)) (pa_cons (pe_lst pa_nil) pa_nil)))) (pg_tup (by rfl) (pgs_cons (pg_name (i := 3) nd rfl (Or.inr rfl)) (pgs_cons (pg_name (i := 4) nd rfl (Or.inr rfl)) (pgs_cons (pg_name (i := 5) nd rfl (Or.inr rfl)) pgs_nil)))))
    (pss_cons (ps_for PassesOwn.never rfl (pi_range1 rfl B.range (pa_cons (w_len K B (pa_cons (pv 3) pa_nil)) pa_nil)) (pg_name (i := 1) nd rfl (Or.inr rfl))
    (pss_one (ps_expr (pe_bm PySem.F.plainAttrs_list PySem.F.slot_list_append PySem.F.type_list_append mt_append (pv 5) (pa_cons (pe_lc (own := [("_law_n", 7)]) rfl nd (pi_range1 rfl B.range (pa_cons (w_len K B (pa_cons (pv 4) pa_nil)) pa_nil)) (blkOk_by (by kernel_rfl)) (fun _ _ _ _ _ => (pg_name (i := 7) nd rfl (Or.inl rfl))) (fun _ _ _ _ _ => pts_one (PW.pt (pw_and (pt_cmpR (w_in K) (pe_ix (w_ixL K) (pv 4) (pv 7) (fun _ _ => rfl)) (pe_slice (w_slL K) (pv 3) (po_some (pv 1)) po_none) rfl) (pw_and1 (pt_val (pe_h G_law_is_near hr (pa_cons (pv 0) (pa_cons (pe_ix (w_ixL K) (pv 3) (pv 1) (fun _ _ => rfl)) (pa_cons (pe_ix (w_ixL K) (pv 4) (pv 7) (fun _ _ => rfl)) pa_nil))))))))) (fun _ _ _ _ _ => (pv 7))) pa_nil)))))
    (pss_cons (ps_setLc (i := 2) (own := [("_law_row", 6)]) rfl nd rfl rfl (sw_true rfl rfl rfl (by decide +kernel)) (w_piL K (pv 5)) (blkOk_by (by kernel_rfl)) (fun _ _ _ _ _ => (pg_name (i := 6) nd rfl (Or.inr rfl))) (fun _ _ _ _ _ => pts_one (pt_cmpR (w_eqD K hr) (pe_lc (own := [("_law_one", 8)]) rfl nd (w_piL K (pv 5)) (blkOk_by (by kernel_rfl)) (fun _ _ _ _ _ => (pg_name (i := 8) nd rfl (Or.inr rfl))) (fun _ _ _ _ _ => pts_one (PW.pt (pw_and (pt_cmpR (w_neD K hr) (pv 8) (pv 6) (nomark _)) (pw_and1 (pt_cmpR (w_eqD K hr) (pe_lc (own := [("_law_n", 7)]) rfl nd (w_piL K (pv 6)) (blkOk_by (by kernel_rfl)) (fun _ _ _ _ _ => (pg_name (i := 7) nd rfl (Or.inl rfl))) (fun _ _ _ _ _ => pts_one (pt_cmpR (w_nin K) (pv 7) (pv 8) rfl)) (fun _ _ _ _ _ => (pv 7))) (pe_lst pa_nil) (nomark _)))))) (fun _ _ _ _ _ => (pv 8))) (pe_lst pa_nil) (nomark _))) (fun _ _ _ _ _ => (pv 6)))
    (pss_one (ps_ret (pe_lc (own := [("_law_row", 6)]) rfl nd (w_piL K (w_sorted K B hr (pa_cons (pv 2) pa_nil))) (blkOk_by (by kernel_rfl)) (fun _ _ _ _ _ => (pg_name (i := 6) nd rfl (Or.inl rfl))) (fun _ _ _ _ _ => pts_nil) (fun _ _ _ _ _ => (w_tuple K B (pa_cons (pe_lc (own := [("_law_n", 7)]) rfl nd (w_piL K (pv 6)) (blkOk_by (by kernel_rfl)) (fun _ _ _ _ _ => (pg_name (i := 7) nd rfl (Or.inl rfl))) (fun _ _ _ _ _ => pts_nil) (fun _ _ _ _ _ => (pe_ix (w_ixL K) (pv 4) (pv 7) (fun _ _ => rfl)))) pa_nil))))))))), ?_⟩
  rintro as d ⟨ps, ts, p, hw, _, rfl, hp, rfl⟩
  have g := hw.g
  have hs := hw.p.sz
  have rf : ∀ x, nearOf ts x x = true := g.rf
  have sy : ∀ x y, nearOf ts x y = nearOf ts y x := g.sy
  have cr := CT.cr_of hw.p.nd rf sy hp
  have plen : p.length ≤ 16 := by rw [cr.pm.length_eq]; exact hs
  obtain ⟨q1, q2⟩ := CT.quick_ok cr.pm hw.p.nd rf sy cr.pe
  have fin := CT.crowds_any cr.pm hw.p.nd rf sy cr.pe q1 q2
  have rows := CT.qRows_iN hw.p.nd (nearOf ts) Str.empty p
  let row : Nat → List Nat := fun k => (List.range ps.length).filter fun i => decide (ps.getD i Str.empty ∈ p.drop k) && nearOf ts (p.getD k Str.empty) (ps.getD i Str.empty)
  have rowlen : ∀ k, (row k).length ≤ 16 := fun k => Nat.le_trans (List.length_filter_le _ _) (by rw [List.length_range]; exact hs)
  refine SvD.e <| sv_seq (sv_three (x := lS p) (EvD.is (ev_call0 (av_cons (ev_var rfl) av_nil) ⟨ps, ts, hw, rfl, rfl⟩) (by rw [hp]; rfl)) (ev_dget (ev_var rfl) ev_str rfl) (en_lst av_nil) rfl) ?_
  refine sv_seq (sv_for (vs := [1]) (xs := List.range p.length) (enc := nI) (wv_rng1 (n := p.length) (av_cons (EvD.is (ev_cb (av_cons (ev_var rfl) av_nil) ra_len) (by rw [List.length_map])) av_nil) (by omega)) (fun j => ([some (worldD C ps ts), none, none, some (lS p), some (lS ps), none, none, none, none], [(5, .lst (((List.range j).map row).map loD))])) (List.range p.length).length rfl (Nat.le_refl _) (fun i k hi hk => ?_) (.inl ⟨rfl, rfl⟩)) ?_
  · obtain ⟨hi2, e⟩ := List.getElem?_eq_some_iff.mp hk
    rw [List.getElem_range] at e
    subst e
    rw [List.length_range] at hi
    refine ⟨_, [some (worldD C ps ts), some (nI i), none, some (lS p), some (lS ps), none, none, none, none], gv_name (by decide), fun j hj => (by rw [List.mem_singleton.mp hj]; rfl), .inl ?_, rfl⟩
    refine sv_toN [] (sv_app (e := loD (row i)) rfl (EvN.ev (ev_lcF (xs := List.range ps.length) (enc := nI) (f := fun n => decide (ps.getD n Str.empty ∈ p.drop i) && nearOf ts (p.getD i Str.empty) (ps.getD n Str.empty)) (wv_rng1 (n := ps.length) (av_cons (EvD.is (ev_cb (av_cons (ev_var rfl) av_nil) ra_len) (by rw [List.length_map])) av_nil) (by omega))
      (fun n hn => ⟨_, gv_name (by decide), tv_and (tv_test (ev_op (ev_op (ev_var rfl) (ev_var rfl) (rd_ixL (n := n) rfl (getD_map ps .str n Str.empty (List.mem_range.mp hn)))) (EvD.is (EvN.ev (ev_fromL (n := i) (ev_var rfl) (pv_some (ev_var rfl)) rfl)) (by rw [List.map_drop])) rd_inL)) fun _ =>
        tv_B (ev_call0 (av_cons (ev_var rfl) (av_cons (ev_op (ev_var rfl) (ev_var rfl) (rd_ixL (n := i) rfl (getD_map p .str i Str.empty hi))) (av_cons (ev_op (ev_var rfl) (ev_var rfl) (rd_ixL (n := n) rfl (getD_map ps .str n Str.empty (List.mem_range.mp hn)))) av_nil))) ⟨ps, ts, _, _, hw, rfl, cr.pm.mem_iff.mp (List.mem_of_getElem? (getD_get p i hi)), List.mem_of_getElem? (getD_get ps n (List.mem_range.mp hn)), rfl⟩), fun _ => ev_var rfl⟩) (by rw [List.length_range]; omega))) ?_) rfl ?_
    · rw [List.length_map, List.length_map, List.length_range]; omega
    · show [(5, D.lst _)] = [(5, D.lst _)]
      rw [List.range_succ, List.map_append, List.map_append]
      rfl
  rw [List.length_range]
  have rl : ((List.range p.length).map row).length ≤ 16 := by rw [List.length_map, List.length_range]; exact plen
  have re : (List.range p.length).map row = (CT.qRows ps (nearOf ts) p).map (CT.iN ps) := rows.symm
  rw [re] at rl ⊢
  generalize hR : (CT.qRows ps (nearOf ts) p).map (CT.iN ps) = R at rl ⊢
  have hz : ∀ r ∈ R, r.length ≤ 16 ∧ ∀ n ∈ r, n < ps.length := fun r hr => by
    rw [← hR, ← re] at hr
    obtain ⟨k, _, rfl⟩ := List.mem_map.mp hr
    exact ⟨rowlen k, fun n hn => List.mem_range.mp (List.mem_filter.mp hn).1⟩
  refine sv_frz (sv_seq (sv_asg (d := .lst ((CT.lSome R).map loD)) (EvN.ev (ev_lcF (xs := R) (enc := loD) (f := fun r => (R.filter fun o => !decide (o = r) && (r.filter fun x => !decide (x ∈ o)).isEmpty).isEmpty) (wv_list (ev_var rfl)) (fun r hr => ⟨_, gv_name (by decide), tv_test (ev_op (EvN.ev (ev_lcF (xs := R) (enc := loD) (f := fun o => !decide (o = r) && (r.filter fun x => !decide (x ∈ o)).isEmpty) (wv_list (ev_var rfl))
    (fun o ho => ⟨_, gv_name (by decide), tv_and (TvD.is (tv_test (ev_op (ev_var rfl) (ev_var rfl) (rd_neE (k := 1) eqOn_lo (x := o) (y := r) trivial trivial (eqk_lo o) (eqk_lo r)))) (congrArg not (decide_eq_decide.mpr Iff.rfl))) fun _ => tv_test (ev_op (EvN.ev (ev_lcF (xs := r) (enc := nI) (f := fun n => !decide (n ∈ o)) (wv_list (ev_var rfl)) (fun n hn => ⟨_, gv_name (by decide), tv_test (ev_op (ev_var rfl) (ev_var rfl) rd_ninN), fun _ => ev_var rfl⟩) (by have := (hz r hr).1; omega))) (ev_lst av_nil) (rd_isNil (eqk_lo (k := 0) _))), fun _ => ev_var rfl⟩) (by omega))) (ev_lst av_nil) (rd_isNil (eqk_lst (k := 1) fun _ _ => eqk_lo _))), fun _ => ev_var rfl⟩) (by omega)))) ?_)
  have sub := CT.qRows_sub (ps := ps) (n := nearOf ts) (p := p)
  have some_eq : CT.lSome R = (CT.lSome (CT.qRows ps (nearOf ts) p)).map (CT.iN ps) := by rw [← hR]; exact CT.lSome_iN sub
  have sb := CT.sort_back Str.empty (l := CT.lSome (CT.qRows ps (nearOf ts) p)) fun r hr => sub r (List.mem_filter.mp hr).1
  rw [← some_eq, fin] at sb
  have smem : ∀ r ∈ (CT.lSome R).mergeSort (CT.leK CT.rI), r ∈ R := fun r hr => (List.mem_filter.mp (List.mem_mergeSort.mp hr)).1
  refine sv_ret (EvD.is (EvN.ev (ev_lcE0N (xs := (CT.lSome R).mergeSort (CT.leK CT.rI)) (enc := loD) (enc2 := tS) (q := fun r => r.map fun k => ps.getD k Str.empty) (wv_list (EvN.ev (en_sortLo (av_cons (ev_var rfl) av_nil)))) (fun r hr => ⟨_, gv_name (by decide), EvD.is (ev_cb (av_cons (EvN.ev (ev_lc0N (xs := r) (enc := nI) (h := fun k => .str (ps.getD k Str.empty)) (wv_list (ev_var rfl)) (fun n hn => ⟨_, gv_name (by decide), ev_op (ev_var rfl) (ev_var rfl) (rd_ixL (n := n) rfl (getD_map ps .str n Str.empty ((hz r (smem r hr)).2 n hn)))⟩) (by have := (hz r (smem r hr)).1; omega))) av_nil) ra_tuple) (by show D.tup _ = D.tup (List.map _ (List.map _ r)); rw [List.map_map]; rfl)⟩) ?_)) ?_)
  · rw [List.length_mergeSort]; exact Nat.le_trans (List.length_filter_le _ _) (by omega)
  · rw [sb]
end
end CW
/-! M15 -/
/-! M15: the lots, turn by turn. -/
namespace CT
variable {α : Type} [DecidableEq α]
theorem lots_app (n : α → α → Bool) : ∀ (xs ys : List α) (ls : List (List α)), lLots n (xs ++ ys) ls = lLots n ys (lLots n xs ls)
  | [], ys, ls => rfl
  | x :: xs, ys, ls => lots_app n xs ys _
theorem lots_len (n : α → α → Bool) : ∀ (xs : List α) (ls : List (List α)), (lLots n xs ls).length ≤ 2 ^ xs.length * ls.length
  | [], ls => by rw [List.length_nil, Nat.pow_zero, Nat.one_mul]; exact Nat.le_refl _
  | x :: xs, ls => by
    refine Nat.le_trans (lots_len n xs _) ?_
    rw [List.length_append, List.length_map, List.length_cons, Nat.pow_succ, Nat.mul_assoc]
    refine Nat.mul_le_mul_left _ ?_
    have := List.length_filter_le (fun l => areNear n (l ++ [x])) ls
    omega
variable {ps : List α} {n : α → α → Bool}
theorem lots_step {k : Nat} {x : α} (h : ps[k]? = some x) : lLots n (ps.take (k + 1)) [[]] = lLots n (ps.take k) [[]] ++ ((lLots n (ps.take k) [[]]).filter fun l => areNear n (l ++ [x])).map fun l => l ++ [x] := by
  have e : ps.take (k + 1) = ps.take k ++ [x] := by rw [List.take_add_one, h]; rfl
  rw [e, lots_app]
  rfl
theorem lots_sub (hn : ps.Nodup) (k : Nat) : ∀ l ∈ lLots n (ps.take k) [[]], l.Sublist (ps.take k) := fun l hl => by
  have h := (lots_mem n (ps.take k) [] [[]] (by rw [List.nil_append]; exact hn.sublist (List.take_sublist _ _)) (List.pairwise_singleton _ _) fun l => by
    rw [List.mem_singleton, List.sublist_nil]
    exact ⟨fun e => ⟨e, by rw [e]; exact areNear_iff.mpr fun a ha => (nomatch ha)⟩, fun h => h.1⟩).2 l
  rw [List.nil_append] at h
  exact (h.mp hl).1
theorem lots_n (hs : ps.length ≤ 8) (k : Nat) : (lLots n (ps.take k) [[]]).length ≤ 256 := by
  refine Nat.le_trans (lots_len n _ _) ?_
  have : (ps.take k).length ≤ 8 := by rw [List.length_take]; omega
  have := Nat.pow_le_pow_right (n := 2) (by decide) this
  show _ * 1 ≤ _
  omega
end CT
/-! P23 -/
/-! P23: the crowds by lots. -/
namespace CW
open PySem PySem.Spec PyProof.Rows L2
theorem rd_catT {Γ : Gam} {K : PySem.W.Frag} {ds es : List D} (hz : ds.length + es.length ≤ 90000) : RD2 Γ (rCatA K) (.tup ds) (.tup es) (.tup (ds ++ es)) := fun x y S H a b k Q q => by
  cases a with
  | tup e1 a1 =>
    cases b with
    | tup e2 a2 =>
      have h1 := a1.length
      have h2 := a2.length
      refine ⟨_, _, _, _, rfl, rfl, .of (k.ex _ _ e1), .of (k.ex _ _ e2), szl (by omega), fun z => ?_, fun _ z => ?_, fun _ _ p hp => ?_⟩
      · subst z
        cases a1
        exact q _ S H (.refl k) (.tup e2 a2)
      · subst z
        cases a2
        rw [List.append_nil] at q
        exact q _ S H (.refl k) (.tup e1 a1)
      · exact q _ _ _ (.new k hp _) (.tup upd_same ((a1.append a2).mono (Ex.new (k.fresh hp))))
theorem w_index {X : Cx} (K : PySem.W.Frag) (h : X.K = K := by rfl) : MtR X "list.index" (rIndex K) := h ▸ mt_index
theorem take_filt {α : Type} (p : α → Bool) {l : List α} {i : Nat} {x : α} (h : l[i]? = some x) : (l.take (i + 1)).filter p = (l.take i).filter p ++ if p x = true then [x] else [] := by
  rw [take_snoc h, List.filter_append]
  congr 1
  cases e : p x <;> simp [e]
section
variable {P : Program} {w : World} {K : PySem.W.Frag} {mg : Str → Option Value} {base : Heap} {C : Addr} {f : Addr} {fd : FuncData}
theorem sc__law_crowds : FnScope ["_law_world", "_law_k", "_law_lot", "_law_rows", "_law_posts", "_law_found", "_law_lots", "_law_more", "_law_row", "_law_one", "_law_other"] ["_law_world"] (defScope (topS 64)) := ⟨rfl, rfl, rfl, by decide +kernel, rfl, by decide +kernel, by decide +kernel⟩
theorem ok__law_crowds (T : Kx K mg C) (F : FnP K "_law_crowds" "_law_crowds" (topS 64) f fd) (G_law_is_near : Has P w K mg base "_law_is_near" ["_law_world", "_law_one", "_law_other"] 1 (spF G0 (rLNear C))) (G_law_is_crowd : Has P w K mg base "_law_is_crowd" ["_law_world", "_law_posts"] 2 (spF G0 (rLCrowd C))) : FnOk P w K mg base CX0 3 f fd ["_law_world"] (spF G0 (rLCr C 8)) := by
  have nd := (sc__law_crowds).nd
  have B := T.b
  refine fn_ok F sc__law_crowds (fun as d ⟨_, _, _, _, _, e, _⟩ => by rw [e]; rfl) fun cdv A outer s H E hr => ?_
  have hu := hu_of hr
  refine ⟨_, (pss_cons (ps_asg (pe_tup (pa_cons (pe_dget hu (pv 0) pe_str (fun _ _ => rfl)) (pa_cons (pe_lst pa_nil) (pa_cons (pe_lst (pa_cons (pe_tup pa_nil) pa_nil)) pa_nil)))) (pg_tup (by rfl) (pgs_cons (pg_name (i := 4) nd rfl (Or.inr rfl)) (pgs_cons (pg_name (i := 5) nd rfl (Or.inl rfl)) (pgs_cons (pg_name (i := 6) nd rfl (Or.inl rfl)) pgs_nil)))))
    (pss_cons (ps_for PassesOwn.never rfl (pi_range1 rfl B.range (pa_cons (w_len K B (pa_cons (pv 4) pa_nil)) pa_nil)) (pg_name (i := 1) nd rfl (Or.inr rfl))
    (pss_one (ps_set (i := 6) nd rfl (Or.inl rfl) (pe_op op_cat (pv 6) (pe_lc (own := [("_law_lot", 2)]) rfl nd (w_piL K (pv 6)) (blkOk_by (by kernel_rfl)) (fun _ _ _ _ _ => (pg_name (i := 2) nd rfl (Or.inl rfl))) (fun _ _ _ _ _ => pts_one (pt_val (pe_h G_law_is_crowd hr (pa_cons (pv 0) (pa_cons (pe_op (w_catT K) (pv 2) (pe_tup (pa_cons (pe_ix (w_ixL K) (pv 4) (pv 1) (fun _ _ => rfl)) pa_nil))) pa_nil))))) (fun _ _ _ _ _ => (pe_op (w_catT K) (pv 2) (pe_tup (pa_cons (pe_ix (w_ixL K) (pv 4) (pv 1) (fun _ _ => rfl)) pa_nil)))))))))
    (pss_cons (ps_for PassesOwn.never rfl (w_piL K (pv 6)) (pg_name (i := 2) nd rfl (Or.inr rfl))
    (pss_cons (ps_setLc (i := 7) (own := [("_law_one", 9)]) rfl nd rfl rfl (sw_true rfl rfl rfl (by decide +kernel)) (w_piL K (pv 4)) (blkOk_by (by kernel_rfl)) (fun _ _ _ _ _ => (pg_name (i := 9) nd rfl (Or.inr rfl))) (fun _ _ _ _ _ => pts_one (PW.pt (pw_and (pt_cmpR (w_nin K) (pv 9) (pv 2) rfl) (pw_and1 (pt_cmpR (w_eqD K hr) (pe_lc (own := [("_law_other", 10)]) rfl nd (w_piT K (pv 2)) (blkOk_by (by kernel_rfl)) (fun _ _ _ _ _ => (pg_name (i := 10) nd rfl (Or.inl rfl))) (fun _ _ _ _ _ => pts_one (pt_not (pt_val (pe_h G_law_is_near hr (pa_cons (pv 0) (pa_cons (pv 9) (pa_cons (pv 10) pa_nil))))))) (fun _ _ _ _ _ => (pv 10))) (pe_lst pa_nil) (nomark _)))))) (fun _ _ _ _ _ => (pv 9)))
    (pss_one (ps_set (i := 5) nd rfl (Or.inl rfl) (pe_op op_cat (pv 5) (pe_ifExp (PW.pt (pw_and (pt_cmpR (w_eqD K hr) (pv 7) (pe_lst pa_nil) (nomark _)) (pw_and1 (pt_cmpR (w_neD K hr) (pv 2) (pe_tup pa_nil) (nomark _))))) (pe_lst (pa_cons (pv 2) pa_nil)) (pe_lst pa_nil)))))))
    (pss_cons (ps_set (i := 3) nd rfl (Or.inl rfl) (w_sorted K B hr (pa_cons (pe_lc (own := [("_law_lot", 2)]) rfl nd (w_piL K (pv 5)) (blkOk_by (by kernel_rfl)) (fun _ _ _ _ _ => (pg_name (i := 2) nd rfl (Or.inl rfl))) (fun _ _ _ _ _ => pts_nil) (fun _ _ _ _ _ => (w_tuple K B (pa_cons (pe_lc (own := [("_law_one", 9)]) rfl nd (w_piT K (pv 2)) (blkOk_by (by kernel_rfl)) (fun _ _ _ _ _ => (pg_name (i := 9) nd rfl (Or.inl rfl))) (fun _ _ _ _ _ => pts_nil) (fun _ _ _ _ _ => (w_bm K PySem.F.plainAttrs_list PySem.F.slot_list_index PySem.F.type_list_index (w_index K) (pv 4) (pa_cons (pv 9) pa_nil)))) pa_nil)))) pa_nil)))
    (pss_one (ps_ret (pe_lc (own := [("_law_row", 8)]) rfl nd (w_piL K (pv 3)) (blkOk_by (by kernel_rfl)) (fun _ _ _ _ _ => (pg_name (i := 8) nd rfl (Or.inl rfl))) (fun _ _ _ _ _ => pts_nil) (fun _ _ _ _ _ => (w_tuple K B (pa_cons (pe_lc (own := [("_law_k", 1)]) rfl nd (w_piT K (pv 8)) (blkOk_by (by kernel_rfl)) (fun _ _ _ _ _ => (pg_name (i := 1) nd rfl (Or.inl rfl))) (fun _ _ _ _ _ => pts_nil) (fun _ _ _ _ _ => (pe_ix (w_ixL K) (pv 4) (pv 1) (fun _ _ => rfl)))) pa_nil)))))))))), ?_⟩
  rintro as d ⟨ps, ts, p, hw, h8, rfl, hp, rfl⟩
  have g := hw.g
  have hs := hw.p.sz
  have rf : ∀ x, nearOf ts x x = true := g.rf
  have sy : ∀ x y, nearOf ts x y = nearOf ts y x := g.sy
  have cr := CT.cr_of hw.p.nd rf sy hp
  obtain ⟨q1, q2⟩ := CT.found_ok (n := nearOf ts) hw.p.nd
  have fin := CT.crowds_any cr.pm hw.p.nd rf sy cr.pe q1 q2
  have ln := CT.lots_n (n := nearOf ts) h8
  have lsub := fun k l hl => (CT.lots_sub (n := nearOf ts) hw.p.nd k l hl)
  have lin : ∀ k, ∀ l ∈ CT.lLots (nearOf ts) (ps.take k) [[]], (∀ x ∈ l, x ∈ ps) ∧ l.length ≤ 16 := fun k l hl => by
    have h1 := (lsub k l hl).trans (List.take_sublist _ _)
    exact ⟨fun x hx => h1.subset hx, Nat.le_trans h1.length_le hs⟩
  refine SvD.e <| sv_seq (sv_asgG (vs := [4, 5, 6]) (d := .tup [lS ps, .lst [], .lst [.tup []]]) (ev_tup (av_cons (ev_dget (ev_var rfl) ev_str rfl) (av_cons (ev_lst av_nil) (av_cons (ev_lst (av_cons (ev_tup av_nil) av_nil)) av_nil)))) (gv_tup (gs_cons (gv_name (by decide)) (gs_cons (gv_name (by decide)) (gs_cons (gv_name (by decide)) gs_nil)))) (fun j _ => rfl)) ?_
  refine sv_seq (sv_for (vs := [1]) (xs := List.range ps.length) (enc := nI) (wv_rng1 (n := ps.length) (av_cons (EvD.is (ev_cb (av_cons (ev_var rfl) av_nil) ra_len) (by rw [List.length_map])) av_nil) (by omega)) (fun j => ([some (worldD C ps ts), none, none, none, some (lS ps), some (.lst []), some (crD (CT.lLots (nearOf ts) (ps.take j) [[]])), none, none, none, none], [])) (List.range ps.length).length rfl (Nat.le_refl _) (fun i k hi hk => ?_) (.inl ⟨rfl, rfl⟩)) ?_
  · obtain ⟨hi2, e⟩ := List.getElem?_eq_some_iff.mp hk
    rw [List.getElem_range] at e
    subst e
    rw [List.length_range] at hi
    have gx := getD_get ps i hi
    refine ⟨_, [some (worldD C ps ts), some (nI i), none, none, some (lS ps), some (.lst []), some (crD (CT.lLots (nearOf ts) (ps.take (i + 1)) [[]])), none, none, none, none], gv_name (by decide), fun j hj => rfl, .inl ?_, rfl⟩
    rw [CT.lots_step gx]
    generalize hx : ps.getD i Str.empty = x at gx
    have mx : x ∈ ps := List.mem_of_getElem? gx
    have hl := lin i
    have hn := ln i
    generalize CT.lLots (nearOf ts) (ps.take i) [[]] = L at hl hn
    have lx : ∀ (l : List Str) {ρ : Rho}, ρ[2]? = some (some (tS l)) → ρ[4]? = some (some (lS ps)) → ρ[1]? = some (some (nI i)) → l.length ≤ 16 → EvD G0 (tOp (rCatA K) (tVar 2) (tTup (tCons (tOp (rIxL K) (tVar 4) (tVar 1)) tNil))) ρ (tS (l ++ [x])) := fun l ρ h1 h2 h3 hz =>
      EvD.is (ev_op (ev_var h1) (ev_tup (av_cons (ev_op (ev_var h2) (ev_var h3) (rd_ixL (n := i) rfl (getD_map ps .str i Str.empty hi))) av_nil)) (rd_catT (by rw [List.length_map]; show _ + 1 ≤ _; omega))) (by rw [hx, tS, sS_snoc])
    refine sv_asg (EvD.is (EvN.ev (en_cat (ev_var rfl) (EvN.ev (ev_lcEN (xs := L) (enc := tS) (enc2 := tS) (f := fun l => CT.areNear (nearOf ts) (l ++ [x])) (q := fun l => l ++ [x]) (wv_list (ev_var rfl)) (fun l ml => ⟨_, gv_name (by decide), tv_B (ev_call0 (av_cons (ev_var rfl) (av_cons (lx l rfl rfl rfl (hl l ml).2) av_nil)) ⟨ps, ts, l ++ [x], hw, Or.inr rfl, fun y hy => ?_, ?_, rfl⟩), fun _ => lx l rfl rfl rfl (hl l ml).2⟩) (by omega))) ?_)) ?_)
    · rcases List.mem_append.mp hy with hy | hy
      · exact (hl l ml).1 y hy
      · rw [List.mem_singleton.mp hy]; exact mx
    · have := (hl l ml).2
      rw [List.length_append]
      show _ + 1 ≤ _
      omega
    · have := List.length_filter_le (fun l => CT.areNear (nearOf ts) (l ++ [x])) L
      rw [List.length_map, List.length_map, List.length_map]
      omega
    · rw [← List.map_append]
  rw [List.length_range, List.take_length]
  have hl := lin ps.length
  have hn := ln ps.length
  rw [List.take_length] at hl hn
  have hF : CT.lFound ps (nearOf ts) = (CT.lLots (nearOf ts) ps [[]]).filter fun l => CT.lMore ps (nearOf ts) l && !l.isEmpty := rfl
  generalize CT.lLots (nearOf ts) ps [[]] = L at hl hn hF
  refine sv_seq (sv_for (vs := [2, 7]) (xs := L) (enc := tS) (wv_list (ev_var rfl)) (fun j => ([some (worldD C ps ts), none, none, none, some (lS ps), some (crD ((L.take j).filter fun l => CT.lMore ps (nearOf ts) l && !l.isEmpty)), some (crD L), none, none, none, none], [])) L.length rfl (Nat.le_refl _) (fun i l hi hk => ?_) (.inl ⟨rfl, rfl⟩)) ?_
  · have ml := List.mem_of_getElem? hk
    refine ⟨_, [some (worldD C ps ts), none, some (tS l), none, some (lS ps), some (crD ((L.take (i + 1)).filter fun l => CT.lMore ps (nearOf ts) l && !l.isEmpty)), some (crD L), some (lS (ps.filter fun x => !decide (x ∈ l) && (l.filter fun y => !nearOf ts x y).isEmpty)), none, none, none], gv_name (by decide), fun j hj => rfl, .inl ?_, rfl⟩
    refine sv_seq (sv_asg (EvN.ev (ev_lcF (xs := ps) (enc := .str) (f := fun x => !decide (x ∈ l) && (l.filter fun y => !nearOf ts x y).isEmpty) (wv_list (ev_var rfl)) (fun x hx => ⟨_, gv_name (by decide), tv_and (tv_test (ev_op (ev_var rfl) (ev_var rfl) rd_ninT)) fun _ =>
      tv_test (ev_op (EvN.ev (ev_lcF (xs := l) (enc := .str) (f := fun y => !nearOf ts x y) (wv_tup (ev_var rfl)) (fun y hy => ⟨_, gv_name (by decide), tv_not (tv_B (ev_call0 (av_cons (ev_var rfl) (av_cons (ev_var rfl) (av_cons (ev_var rfl) av_nil))) ⟨ps, ts, x, y, hw, rfl, hx, (hl l ml).1 y hy, rfl⟩)), fun _ => ev_var rfl⟩) (by have := (hl l ml).2; omega))) (ev_lst av_nil) (rd_isNil (eqk_posts g fun y hy => (hl l ml).1 y (List.mem_filter.mp hy).1))), fun _ => ev_var rfl⟩) (by omega)))) ?_
    refine sv_asg (EvD.is (EvN.ev (en_cat (es := (if (CT.lMore ps (nearOf ts) l && !l.isEmpty) = true then [l] else []).map tS) (ev_var rfl) (ev_if (k := CT.lMore ps (nearOf ts) l && !l.isEmpty) (tv_and (tv_test (ev_op (ev_var rfl) (ev_lst av_nil) (rd_isNil (eqk_posts g fun y hy => (List.mem_filter.mp hy).1)))) fun _ => tv_test (ev_op (ev_var rfl) (ev_tup av_nil) (rd_notNilT (eqk_tup (k := 0) fun y hy => eqk_str (hw.p.wd y ((hl l ml).1 y hy)).ok)))) (fun h => EvD.is (ev_lst (av_cons (ev_var rfl) av_nil)) ?_) fun h => EvD.is (ev_lst av_nil) ?_) ?_)) ?_)
    · rw [if_pos h]; rfl
    · rw [if_neg (by rw [h]; exact Bool.false_ne_true)]; rfl
    · have h1 := List.length_filter_le (fun l => CT.lMore ps (nearOf ts) l && !l.isEmpty) (L.take i)
      have h2 : (L.take i).length ≤ L.length := by rw [List.length_take]; omega
      rw [List.length_map, List.length_map]
      split
      · show _ + 1 ≤ _; omega
      · show _ + 0 ≤ _; omega
    · rw [take_filt _ hk, ← List.map_append]
  rw [List.take_length, ← hF]
  have fsub : ∀ l ∈ CT.lFound ps (nearOf ts), (∀ x ∈ l, x ∈ ps) ∧ l.length ≤ 16 := fun l h => by rw [hF] at h; exact hl l (List.mem_filter.mp h).1
  have fne : ∀ l ∈ CT.lFound ps (nearOf ts), l ≠ [] := fun l h z => by
    rw [hF] at h
    have := (List.mem_filter.mp h).2
    rw [z] at this
    simp at this
  have flen : (CT.lFound ps (nearOf ts)).length ≤ 256 := by rw [hF]; exact Nat.le_trans (List.length_filter_le _ _) hn
  have sb := CT.sort_back Str.empty (l := CT.lFound ps (nearOf ts)) fun l h => (fsub l h).1
  rw [fin] at sb
  have smem : ∀ r ∈ ((CT.lFound ps (nearOf ts)).map (CT.iN ps)).mergeSort (CT.leK CT.rI), r.length ≤ 16 ∧ ∀ k ∈ r, k < ps.length := fun r hr => by
    obtain ⟨l, hl, rfl⟩ := List.mem_map.mp (List.mem_mergeSort.mp hr)
    refine ⟨by unfold CT.iN; rw [List.length_map]; exact (fsub l hl).2, fun k hk => ?_⟩
    obtain ⟨x, hx, rfl⟩ := List.mem_map.mp hk
    exact List.idxOf_lt_length_iff.mpr ((fsub l hl).1 x hx)
  refine sv_seq (sv_asg (EvN.ev (en_sortLoT (bs := (CT.lFound ps (nearOf ts)).map (CT.iN ps)) (av_cons (EvN.ev (ev_lcE0N (xs := CT.lFound ps (nearOf ts)) (enc := tS) (enc2 := fun l => .tup (l.map nI)) (q := CT.iN ps) (wv_list (ev_var rfl)) (fun l ml => ⟨_, gv_name (by decide), EvD.is (ev_cb (av_cons (EvN.ev (ev_lc0N (xs := l) (enc := .str) (h := fun x => nI (ps.idxOf x)) (wv_tup (ev_var rfl)) (fun x hx => ⟨_, gv_name (by decide), ev_index (ev_var rfl) (ev_var rfl) ((fsub l ml).1 x hx)⟩) (by have := (fsub l ml).2; omega))) av_nil) ra_tuple) (by show D.tup _ = D.tup (List.map _ (List.map _ l)); rw [List.map_map]; rfl)⟩) (by omega))) av_nil) fun b hb z => ?_))) ?_
  · obtain ⟨l, hl, rfl⟩ := List.mem_map.mp hb
    exact fne l hl (List.map_eq_nil_iff.mp z)
  refine sv_ret (EvD.is (EvN.ev (ev_lcE0N (xs := ((CT.lFound ps (nearOf ts)).map (CT.iN ps)).mergeSort (CT.leK CT.rI)) (enc := fun l => .tup (l.map nI)) (enc2 := tS) (q := fun r => r.map fun k => ps.getD k Str.empty) (wv_list (ev_var rfl)) (fun r hr => ⟨_, gv_name (by decide), EvD.is (ev_cb (av_cons (EvN.ev (ev_lc0N (xs := r) (enc := nI) (h := fun k => .str (ps.getD k Str.empty)) (wv_tup (ev_var rfl)) (fun n hn => ⟨_, gv_name (by decide), ev_op (ev_var rfl) (ev_var rfl) (rd_ixL (n := n) rfl (getD_map ps .str n Str.empty ((smem r hr).2 n hn)))⟩) (by have := (smem r hr).1; omega))) av_nil) ra_tuple) (by show D.tup _ = D.tup (List.map _ (List.map _ r)); rw [List.map_map]; rfl)⟩) ?_)) ?_)
  · rw [List.length_mergeSort, List.length_map]; omega
  · rw [sb]
end
end CW
/-! P24 -/
/-! P24: the source is made. -/
namespace CW
open PySem PySem.Spec PyProof.Rows L2 LamX
/-- a list of the script's stays as it is -/
def ΓN (a : Addr) (H0 : Hp) : Gam where
  B := fun b => b = a ∧ H0 a ≠ none
  J := fun H => H0 a ≠ none → H a = H0 a
  st := fun H H2 k j z => by
    have e := j z
    cases q : H0 a with
    | none => exact absurd q z
    | some o => rw [q] at e; exact k a o e (.inr ⟨rfl, z⟩)
  lv := fun H b j ⟨e, z⟩ => by rw [e, j z]; exact z
theorem sqN {K : PySem.W.Frag} {a : Addr} {H0 H : Hp} {xs : List V} (h : SqL K H0 a xs) (j : (ΓN a H0).J H) : SqL K H a xs := by
  rcases h with h | h
  · have z : H0 a ≠ none := by rcases h with h | ⟨o, h⟩ <;> (rw [h]; exact nofun)
    have e := j z
    rcases h with h | ⟨o, h⟩
    · exact .inl (.inl (e.trans h))
    · exact .inl (.inr ⟨o, e.trans h⟩)
  · exact .inr h
theorem wv_opq {Γ : Gam} {ρ : Rho} {K : PySem.W.Frag} {i : Nat} {a : Addr} {xs : List V} {ds : List D} (h : ρ[i]? = some (some (.opq a))) (hS : ∀ H, Γ.J H → SqL K H a xs) (hx : ∀ S, AtAll S xs ds) : WvD Γ (iList K (tVar i)) ρ ds := fun σ S H s k R q => by
  obtain ⟨v, h1, h2⟩ := s.at_ i _ h
  cases at_opq h2
  refine ⟨_, h1, ?_⟩
  have w := walk_list (K := K) (a := a) (xs := xs)
  have le := (hx S).length
  refine ⟨_, rfl, ⟨xs, hS _ k.j⟩, q _ _ _ (.refl k) ⟨fun i S' H' hi e1 k1 => w.goes i H' (by omega) (hS _ k1.j), fun S' H' e1 k1 => le ▸ w.stops H' (hS _ k1.j), fun i x S' H' H'' hi e1 k1 y => ?_⟩⟩
  obtain ⟨rfl, hx2⟩ := w.yields i H' x H'' (by omega) (hS _ k1.j) y
  obtain ⟨d, hd, ad⟩ := (hx S').get hx2
  exact ⟨S', d, .refl k1, hd, ad⟩
def spSrc (K : PySem.W.Frag) : Sp := fun vs H Q _ => ∃ (a : Addr) (ns : List Int), vs = [.ref a] ∧ SqL K H a (ns.map V.int) ∧ ns.length ≤ 100 ∧ ∀ s c H2, (∀ b o, H b = some o → H2 b = some o) → H s = none → H c = none → Src s c H2 → Q (.ref s) H2
theorem w_rev {X : Cx} (K : PySem.W.Frag) {e : Expr} {te : TE} {k : Nat} {p1 p2 p3 pos : Pos} (he : PE X e te) (h : X.K = K := by rfl) : PE X (.Subscript e (.Slice none none (some (.UnaryOp .USub (.Constant (.int 1) k p1) p2)) p3) pos) (tRevL K te) := h ▸ pe_revL he
theorem pairs4 {te tm : TE} {σ : L2.St} {H : Hp} {QQ : List (V × V) → Hp → Prop} (h : te σ H fun x H1 => tm σ H1 fun m H2 => QQ [(.str "cells", x), (.str "left", .int 1), (.str "mixed", m), (.str "turn", .int 0)] H2) : tPairs [(tC (.str "cells"), te), (tC (.str "left"), tC (.int 1)), (tC (.str "mixed"), tm), (tC (.str "turn"), tC (.int 0))] σ H QQ := h
section
variable {P : Program} {w : World} {K : PySem.W.Frag} {mg : Str → Option Value} {base : Heap} {C : Addr} {f : Addr} {fd : FuncData}
theorem sc__law_source : FnScope ["_law_script", "_law_mixed_here", "_law_cell"] ["_law_script"] (defScope (topS 44)) := ⟨rfl, rfl, rfl, by decide +kernel, rfl, by decide +kernel, by decide +kernel⟩
theorem ok__law_source (T : Kx K mg C) (F : FnP K "_law_source" "_law_source" (topS 44) f fd) : FnOk P w K mg base CX0 1 f fd ["_law_script"] (spSrc K) := by
  have nd := (sc__law_source).nd
  have B := T.b
  refine F.ok sc__law_source (fun vs H Q E h => ?_) fun cdv A outer s H vs Q E hr h => ?_
  · obtain ⟨a, ns, rfl, _⟩ := h; rfl
  refine ⟨_, PSs.nox (pss_cons (ps_set (i := 1) nd rfl (Or.inl rfl) pe_int)
    (pss_cons (ps_for PassesOwn.never rfl (w_piL K (pv 0)) (pg_name (i := 2) nd rfl (Or.inl rfl))
    (pss_one (ps_set (i := 1) nd rfl (Or.inl rfl) (pe_op op_modN (pe_callTy call_int1 (by rfl) B.int (by decide +kernel) (pa_cons (pe_op op_add (pe_op op_add (pe_op op_mul (pv 1) pe_int) (pe_op op_mul (pv 2) pe_int)) pe_int) pa_nil)) pe_int))))
    (pss_one (ps_ret (pe_disp (pps_cons pe_str (w_rev K (pe_lc (own := [("_law_cell", 2)]) rfl nd (w_piL K (pv 0)) (blkOk_by (by kernel_rfl)) (fun _ _ _ _ _ => (pg_name (i := 2) nd rfl (Or.inl rfl))) (fun _ _ _ _ _ => pts_nil) (fun _ _ _ _ _ => (pe_callB call_abs (by rfl) B.abs (by decide +kernel) (pa_cons (pv 2) pa_nil))))) (pps_cons pe_str pe_int (pps_cons pe_str (pv 1) (pps_cons pe_str pe_int pps_nil)))) (by rfl) (by rfl) (fun z => by cases z) (by decide)))))), ?_⟩
  obtain ⟨a, ns, rfl, hS, hz, q⟩ := h
  have wv : ∀ {ρ : Rho}, ρ[0]? = some (some (.opq a)) → WvD (ΓN a H) (iList K (tVar 0)) ρ (ns.map .int) := fun h => wv_opq h (fun H' j => sqN hS j) fun S => .of_ints ns
  have k0 : Ok (ΓN a H) (fun _ => none) H := ⟨fun _ _ z => (nomatch z), fun _ => rfl, fun _ _ => rfl⟩
  have sl : Sl (fun _ => none) (L2.start ["_law_script", "_law_mixed_here", "_law_cell"] [V.ref a]) [some (.opq a), none, none] := sl_start (n := 2) (.cons (.opq a) .nil)
  have h1 : SvD (ΓN a H) (tAsg (tC (.int 11)) (gName 1)) [some (.opq a), none, none] [] _ := sv_asg ev_int
  refine h1 _ H _ _ H _ k0 (.refl k0) (Ex.refl _) sl .nil _ ?_
  intro σ1 S1 H1 n1 f1 s1 m1
  have h2 : SvP (ΓN a H) (tFor (iList K (tVar 0)) (gName 2) (tAsg (tOp (rI (fun _ j => j ≠ 0) fun i j => .int (i.fmod j)) (tCB (fun xs H Q => (∃ i, xs = [V.int i] ∧ Q (.int i) H) ∨ ∃ k, xs = [V.bl k] ∧ Q (.int (if k then 1 else 0)) H) (tCons (tOp (rI0 fun i j => .int (i + j)) (tOp (rI0 fun i j => .int (i + j)) (tOp (rI CMul fun i j => .int (i * j)) (tVar 1) (tC (.int 69069))) (tOp (rI CMul fun i j => .int (i * j)) (tVar 2) (tC (.int 31)))) (tC (.int 5))) tNil)) (tC (.int 2147483629))) (gName 1))) [some (.opq a), some (.int 11), none] [] (fun o => ∃ m, o = .nx [some (.opq a), some (.int m), none] []) :=
    svp_for (vs := [2]) (xs := ns) (enc := .int) (wv rfl) (fun _ ρ μ => ∃ m, ρ = [some (.opq a), some (.int m), none] ∧ μ = []) ⟨11, rfl, rfl⟩ (fun i x ρi μi hx hI => by
      obtain ⟨m, rfl, rfl⟩ := hI
      refine ⟨_, gv_name (by decide), fun j _ => rfl, SvP.imp (svp_asg (evp_modR (j := 2147483629) (by decide) (evp_int1 (evp_add (evp_add (evp_mulR (by decide) (EvD.p (ev_var rfl) ⟨_, rfl⟩) ev_int) (evp_mulR (by decide) (EvD.p (ev_var rfl) ⟨_, rfl⟩) ev_int)) (EvD.p ev_int ⟨_, rfl⟩))) ev_int)) fun o ⟨d, ⟨m2, e, _⟩, ho⟩ => ?_⟩
      subst e ho
      exact ⟨_, _, .inl rfl, m2, rfl, rfl⟩) fun ρ' μ' ⟨m, e1, e2⟩ => ⟨m, by rw [e1, e2]⟩
  refine h2 _ H _ S1 H1 σ1 k0 n1 f1 s1 m1 _ fun o ⟨m, ho⟩ => ?_
  subst ho
  intro σ2 S2 H2 n2 f2 s2 m2
  intro Dl hD
  have k2 := n2.ok
  have n3 : Nx (ΓN a H) S2 H2 S2 (upd H2 Dl (.dK [])) := .hid k2 hD _
  have lc := ev_lcE0N (Γ := ΓN a H) (ρ := [some (.opq a), some (.int m), none]) (te := tCB (fun xs H Q => ∃ i, xs = [V.int i] ∧ Q (.int (if i < 0 then -i else i)) H) (tCons (tVar 2) tNil)) (g := gName 2) (vs := [2]) (xs := ns) (enc := .int) (enc2 := .int) (q := fun i => if i < 0 then -i else i) (wv rfl) (fun i hi => ⟨_, gv_name (by decide), ev_cb (av_cons (ev_var rfl) av_nil) ra_abs⟩) (by omega)
  refine pairs4 ?_
  refine lc σ2 S2 _ s2 n3.ok _ fun p S4 H4 o n4 hp hs ho at4 => ?_
  cases at4 with
  | lst al =>
    rename_i vs
    rw [al.ints] at ho
    refine ⟨p, _, rfl, .of ho, fun c hc => ?_⟩
    have s4 := s2.mono n4.ex
    obtain ⟨v, g1, a1⟩ := s4.at_ 1 _ rfl
    cases a1
    have hDl4 : H4 Dl = some (.dK []) := n4.fr Dl _ (n2.ok.nb hD) upd_same
    have ncD : c ≠ Dl := fun z => by rw [z, hDl4] at hc; cases hc
    refine ⟨_, g1, by rw [upd_ne (Ne.symm ncD)]; exact hDl4, [(Sum.inr "cells", .ref c), (Sum.inr "left", .int 1), (Sum.inr "mixed", .int m), (Sum.inr "turn", .int 0)], rfl, by show 4 ≤ 15; decide, ?_⟩
    have keep : ∀ b o, H b = some o → H4 b = some o := fun b o e => by
      by_cases hb : (ΓN a H).B b
      · obtain ⟨rfl, z⟩ := hb
        exact (n4.ok.j z).trans e
      · have e2 := n2.fr b o hb e
        exact n4.fr b o hb (by rw [upd_ne (ne_of_none e2 hD)]; exact e2)
    have un : ∀ b, H4 b = none → H b = none := fun b e => by
      cases z : H b with
      | none => rfl
      | some o => rw [keep b o z] at e; cases e
    have hDH : H Dl = none := by
      cases z : H Dl with
      | none => rfl
      | some o =>
        by_cases hb : (ΓN a H).B Dl
        · obtain ⟨e, y⟩ := hb
          have := n2.ok.j y
          rw [← e, hD, z] at this
          cases this
        · rw [n2.fr Dl o hb z] at hD; cases hD
    refine q Dl c _ (fun b o e => ?_) hDH (un c hc) ⟨_, 1, m, 0, ⟨by rw [upd_same]; rfl, by rw [upd_ne ncD, upd_same, ← List.map_reverse]⟩⟩
    have e4 := keep b o e
    rw [upd_ne (ne_of_none e hDH), upd_ne (ne_of_none e4 hc)]
    exact e4
end
end CW
/-! X1 -/
/-! X1: an own exception's __init__ by super(). -/
namespace CW
open PySem PySem.Spec PyProof.Rows L2 NdefX
/-- what stands of the class at C, its __init__ at f -/
structure IniF (P : Program) (K : PySem.W.Frag) (C f : Addr) (st : Stmt) (fd : FuncData) : Prop where
  ex : ∃ (qual : Str) (cc c : Addr) (oc : Value) (od : Option Addr) (doc pm ct : Value) (osl : Array (Option Value)), fd = PySem.W.fnX "__init__" qual (defArgs st) (defBody st) (defScope st) [("__class__", cc)] .none .none doc pm none (.ref c) ct ∧ K.lookup f = some ⟨oc, od, .func fd, osl⟩ ∧
    PySem.W.codeIn K (.ref c) qual = true ∧ (∃ ccl cdd vs ccs file tf, K.lookup c = some ⟨ccl, cdd, .fields vs, ccs⟩ ∧ vs[2]? = some (.str file tf) ∧ ((P.main.file : Str) == file) = true) ∧ ∃ cl cld csl, K.lookup cc = some ⟨cl, cld, .cell (some (.ref C)), csl⟩
  cls : ∃ cd, PySem.W.clsIn K C = some cd
  sub : PySem.W.mroIn K C (.ref C) = some true
  third : PySem.W.nsIn K cStatics "thirdparty.any" = some none
  sup : PySem.W.ks_superIn K C C "__init__" = some (some (.builtin "ValueError.__init__"))
  subV : PySem.W.subIn K (.ref C) (.type "ValueError") = some true
  top : (P.main.scope.names.lookup ("super" : Str)).isSome = false
/-- self gets the ring -/
def spIni (C : Addr) (fld : Str) : Sp := fun vs H Q _ => ∃ a v, vs = [.ref a, v] ∧ H a = some (exo a C none) ∧ ∀ dx, H dx = none → dx ≠ a → Q .non (upd (upd H dx (exd dx [(fld, v)])) a (exo a C (some dx)))
section
variable {P : Program} {w : World} {K : PySem.W.Frag} {mg : Str → Option Value} {base : Heap} {C f : Addr} {st : Stmt} {fd : FuncData}
theorem ok_ini {fld m : Str} {j : Nat} {p0 p1 p2 p3 p4 p5 p6 p7 p8 p9 : Pos} {k : Nat} (F : IniF P K C f st fd) (T : OexC K C) (hm : mg "super" = none) (hfld : PySem.W.findIn K (.ref C) fld = some none) (S : NScope ["self", fld, "__class__"] ["self", fld] ["__class__"] (defScope st))
    (hsup : (defScope st).names.lookup ("super" : Str) = some .globalImplicit) (hpar : ((defArgs st).posonlyargs ++ (defArgs st).args).head?.map (·.arg) = some ("self" : Str))
    (hbd : defBody st = [.Expr (.Call (.Attribute (.Call (.Name "super" p0) [] [] p1) "__init__" p2) [.Constant (.str m) j p3] [] p4) p5, .Assign [.Attribute (.Name "self" p6) fld p7] (.Name fld p8) p9])
    {pl : Sem Bool} (hev : ∀ env : Env, eval (.Call (.Attribute (.Call (.Name "super" p0) [] [] p1) "__init__" p2) [.Constant (.str m) j p3] [] p4) env = (do
      let ov ← attributeBase (.Call (.Name "super" p0) [] [] p1) "__init__" env (eval (.Call (.Name "super" p0) [] [] p1) env)
      standAt p2.atName
      let (f, first) ← holding [ov] (getMethod ov "__init__" pl)
      callWith p4 f first (backTo p4 (starEach [.Constant (.str m) j p3] env)) []))
    (hfc : (fld == ("__classdict__" : Str)) = false) (hfd : (fld == ("__debug__" : Str)) = false) (hsw : ∀ env : Env, swapsWith (.Name fld p8) (some (.Attribute (.Name "self" p6) fld p7)) p9.line env = pure false) :
    FnOk P w K mg base CX0 (k + 1) f fd ["self", fld] (spIni C fld) := by
  obtain ⟨qual, cc, c, oc, od, doc, pm, ct, osl, rfl, lk, hcd, ⟨ccl, cdd, vsc, ccs, file, tf, lc, hvs, hfile⟩, cl, cld, csl, lcc⟩ := F.ex
  obtain ⟨cd, hcl⟩ := F.cls
  refine ⟨fun vs H Q E ⟨a, v, e, _⟩ => by rw [e]; rfl, fun A outer s H args us vs Q E hr e0 hb r hsp => ?_⟩
  obtain ⟨a, v, rfl, ha, hq⟩ := hsp
  have KX : K.In s.heap := e0.mod.kin.keeps fun b o e => (e0.bs b o e).1
  have bnone : ∀ b o, K.lookup b = some o → H b = none := fun b o e => (e0.bs b o (e0.mod.kin b o e)).2
  have lim : s.heap.NoLimit := e0.mod.nolimit.keeps fun b o e => (e0.bs b o e).1
  obtain ⟨u0, us1, rfl, ru0, ru1⟩ : ∃ u0 us1, us = u0 :: us1 ∧ RelV (.ref a) u0 ∧ Vals [v] us1 := by
    cases r with
    | cons x y => exact ⟨_, _, rfl, x, y⟩
  obtain ⟨u1, rfl, ru1'⟩ := vals_one ru1
  obtain rfl : u0 = Value.ref a := ru0
  have look1 : ∀ {y c'}, ([("__class__", cc)] : List (Str × Addr)).lookup y = some c' → c' = cc := fun {y c'} e => by
    rw [List.lookup_cons] at e
    split at e
    · exact (Option.some.inj e).symm
    · cases e
  have look2 : ∀ {y c'}, ([("__class__", cc)] : List (Str × Addr)).lookup y = some c' → y = "__class__" := fun {y c'} e => by
    rw [List.lookup_cons] at e
    split at e
    · rename_i h; exact eq_of_beq h
    · cases e
  have CA : CellsAt [("__class__", cc)] ["__class__"] [none] s.heap H := ⟨rfl, fun y c' e => by
      rw [look1 e]; exact ⟨bnone _ _ lcc, _, _, KX _ _ lcc, rfl⟩, fun x y c' e1 e2 => (look2 e1).trans (look2 e2).symm, fun i y hi => by
      cases i with
      | zero => cases hi; exact ⟨cc, rfl, fun v hv => by cases hv⟩
      | succ i => cases hi⟩
  obtain ⟨F0, hF0⟩ : ∃ F0 : NF, F0 = ⟨"__init__", qual, defArgs st, defBody st, defScope st, [("__class__", cc)], c⟩ := ⟨_, rfl⟩
  have par : ∀ x ∈ ([("self" : Str), fld].zip [Value.ref a, u1]), (defScope st).names.lookup x.1 = some .local := fun x hx => S.par x.1 (List.of_mem_zip hx).1
  refine PySem.ks_codeAny_call_defAt (body := defBody st) (binds := [("self" : Str), fld].zip [Value.ref a, u1]) hr.depth (KX _ _ lk) rfl lim (PySem.W.codeRec_of KX hcd) rfl hb S.nocell par (fun h1 hns kp => ?_) S.co S.gen S.kind
  have I : Inv (ncx CX0 P w K mg base ["self", fld, "__class__"] F0 f A outer s H E) [] (startF ["self", fld, "__class__"] [.ref a, v] [none]) H { s with heap := h1, toks := s.toks + ([("self" : Str), fld].zip [Value.ref a, u1]).length } := by
    subst hF0
    exact inv_startN (F := ⟨"__init__", qual, defArgs st, defBody st, defScope st, [("__class__", cc)], c⟩) (us := [.ref a, u1]) S hr.hd e0 rfl (.cons rfl (.cons ru1' .nil)) CA hns kp
  have envE : callEnv (PySem.W.fnX "__init__" qual (defArgs st) (defBody st) (defScope st) [("__class__", cc)] .none .none doc pm none (.ref c) ct) s.heap.objs.size f = envF F0 f s.heap.objs.size := by subst hF0; rfl
  rw [envE]
  obtain ⟨E', hE'⟩ : ∃ E', E' = envF F0 f s.heap.objs.size := ⟨_, rfl⟩
  have ek : E'.scope.kind = .function := by rw [hE', hF0]; exact S.kind
  have en : ∀ x, E'.kindOf x = (defScope st).names.lookup x := fun x => by rw [hE', hF0]; rfl
  have ec : E'.cells = ([("__class__", cc)] : List (Str × Addr)) := by rw [hE', hF0]
  have el : E'.locals = s.heap.objs.size := by rw [hE']
  have eg : E'.globals = mainGlobals := by rw [hE']
  have eb : E'.builtins = builtinsNs := by rw [hE']
  have ef : E'.func = some f := by rw [hE']
  have eco : E'.code = .ref c := by rw [hE', hF0]
  have eX : (ncx CX0 P w K mg base ["self", fld, "__class__"] F0 f A outer s H E).env = E' := hE'.symm
  rw [← hE']
  rw [hbd]
  have nd2 : [("self" : Str), fld].Nodup := by
    have z := S.nd
    rw [List.nodup_cons] at z ⊢
    exact ⟨fun y => z.1 (by rw [List.mem_singleton.mp y]; exact List.mem_cons_self), by simp⟩
  refine PySem.ks_wpAt_execs_cons (PySem.ks_wpAt_Expr_any (PySem.ks_wpAt_MethodCall (pl := pl) ?_ (hev E')) (by show (E'.scope.kind == .module && _) = false; rw [ek]; rfl))
  have hx := exo_at I.hok ha
  obtain ⟨t1, hx⟩ := hx
  have kC : ∀ b o, K.lookup b = some o → h1.get? b = some o := fun b o e => kp b o (KX b o e)
  obtain ⟨oD, hD1, hD2⟩ : ∃ oD, h1.get? C = some oD ∧ oD.data = .cls cd := by
    have hcl' := hcl
    unfold PySem.W.clsIn at hcl'
    split at hcl'
    · rename_i ho
      cases hcl'
      exact ⟨_, kC _ _ ho, rfl⟩
    · cases hcl'
  obtain ⟨ar, har, earg⟩ : ∃ ar, ((defArgs st).posonlyargs ++ (defArgs st).args).head? = some ar ∧ ar.arg = "self" := by
    cases e : ((defArgs st).posonlyargs ++ (defArgs st).args).head? with
    | none => rw [e] at hpar; cases hpar
    | some ar => rw [e] at hpar; exact ⟨ar, rfl, Option.some.inj hpar⟩
  have K1 : K.In h1 := fun b o e => kC b o e
  refine PySem.ks_wpAt_super_base (s := { s with heap := h1, toks := _ }) (f := f) (cc := c) ((en _).trans hsup) ((en _).trans (S.frk _ (List.mem_singleton.mpr rfl))) rfl ef (kC _ _ lk) rfl har eco (kC _ _ lc) rfl hvs hfile F.top ?_
  obtain ⟨mb, hb1, hb2⟩ := I.mod.blt
  refine PySem.W.ks_loadName_global ek ((en _).trans hsup) (Calls.loadGlobal_builtin (by rw [eg]; exact I.mod.glob.keeps I.bk) hm (by rw [eb]; exact hb1.keeps I.bk) ((hb2 "super" (by decide)).trans PyProof.Rows.Boot.«super») ⟨rfl, ?_⟩)
  refine wpAny_loadName_free ek ((en _).trans (S.frk _ (List.mem_singleton.mpr rfl))) (by rw [ec]; rfl) ⟨_, kC _ _ lcc, rfl⟩ ?_
  refine wpAny_loadName_local ek ((en _).trans (by rw [earg]; exact S.par _ List.mem_cons_self)) (by rw [el]; exact hns) (v := .ref a) (by rw [earg]; exact zip_look (i := 0) nd2 rfl rfl) ?_
  refine PySem.ks_wpAny_isType_cls hD1 hD2 ⟨rfl, ?_⟩
  refine PySem.ks_wpAny_call_super hD1 hD2 hx rfl (fun c e => by cases e) (PySem.W.looks_mroIn K1 F.sub) (fun h2 e2 k2 => ?_)
  have K2 : K.In h2 := fun b o e => k2 b o (K1 b o e)
  have hx2 := k2 _ _ hx
  have Ia : PySem.W.InstAt h2 a _ C none := ⟨hx2, rfl, rfl, trivial⟩
  have hf := F.sup
  unfold PySem.W.ks_superIn at hf
  rw [hcl] at hf
  refine PySem.W.kxs_getMethod PySem.W.kxs_ValueError e2 (PySem.W.looks_opaque K2 F.third) (l₀ := cd.mro) (fun A Q E s kk q => wpAny_bind ((PySem.W.looks_clsIn K2 hcl) A _ E s kk (wpAny_pure q))) rfl K2 hf (Ia.type.andThen (PySem.W.looks_subIn K2 F.subV)) (PySem.W.ks_ne K2 Ia hcl) rfl ?_
  have kall : ∀ b o, h1.get? b = some o → (h2.push (PySem.W.kxs_mw "ValueError.__init__" a)).get? b = some o := fun b o e => Heap.get?_push_of_some _ (k2 b o e)
  have mw0 : (h2.push (PySem.W.kxs_mw "ValueError.__init__" a)).get? h2.objs.size = some (PySem.W.kxs_mw "ValueError.__init__" a) := Heap.get?_push_size _ rfl
  refine PySem.W.kxs_callWith (i := "ValueError.__init__") (x := a) rfl ?_
  have lsz : a ≠ h2.objs.size := Nat.ne_of_lt (Heap.lt_size hx2)
  have I3 := I.kept (t' := (s.toks + ([("self" : Str), fld].zip [Value.ref a, u1]).length) + 1) kall
  obtain ⟨X, hX⟩ : ∃ X, X = ncx CX0 P w K mg base ["self", fld, "__class__"] F0 f A outer s H E := ⟨_, rfl⟩
  have I2 := I.kept (t' := s.toks) k2
  have fresh2 : H h2.objs.size = none := I2.hok.fresh (Nat.le_refl _)
  have I3p : Inv (ncx CX0 P w K mg base ["self", fld, "__class__"] F0 f A outer s H E) [(h2.objs.size, PySem.W.kxs_mw "ValueError.__init__" a)] _ H _ := I3.pins_of fun p hp => by
    have hp : p ∈ ([] : List (Addr × Obj)) ++ [(h2.objs.size, PySem.W.kxs_mw "ValueError.__init__" a)] := hp
    rw [List.nil_append] at hp
    rw [List.mem_singleton.mp hp]
    exact ⟨mw0, fresh2, Nat.ne_of_gt I2.lt, I2.nofs (Nat.le_refl _), fun v z => by cases z⟩
  have hst := (pa_cons (X := ncx CX0 P w K mg base ["self", fld, "__class__"] F0 f A outer s H E) (pe_str (x := m) (j := j) (pos := p3)) pa_nil).run p4 [(h2.objs.size, PySem.W.kxs_mw "ValueError.__init__" a)] _ _ H (fun vs H1 => vs = [.str m] ∧ H1 = H) I3p ⟨rfl, rfl⟩
  subst hE'
  refine Calls.evalArgs_plain (thn hst fun us2 s2 ⟨vs2, H2, J2, r2, e2v, e2H⟩ => ?_)
  subst e2v e2H
  have hu := (J2.pin (h2.objs.size, PySem.W.kxs_mw "ValueError.__init__" a) (List.mem_singleton.mpr rfl)).1
  refine ⟨hu, ?_⟩
  obtain ⟨us3, rfl, ru3⟩ := vals_one r2
  obtain ⟨nm, q, N, bs, bm, sn, sub, ab, col, dd, z0, z1, z2, z3, z5, hC, hbm⟩ := T.cls
  obtain ⟨t4, hx4⟩ := exo_at J2.hok ha
  obtain ⟨hh, gg, dd2, tt, oo⟩ := s2
  refine wpAny_call (codeAny_of_tree ?_)
  show wpAny _ _ (callAny (.ref h2.objs.size) ⟨[us3], []⟩) _ _ _
  unfold callAny
  refine wpAny_bind (wpAny_load hu ?_)
  refine PySem.W.KFB.if_so (show ((Value.type "method-wrapper" == Value.type "method" || Value.type "method-wrapper" == Value.type "builtin_function_or_method") || Value.type "method-wrapper" == Value.type "method-wrapper") = true by decide) ?_
  refine wpAny_bind (PySem.W.check_bound_init PySem.F.excBase_ValueError.toExcCallFacts (J2.kIn _ _ hC) hx4 rfl ?_)
  refine wpAny_bind (wpAny_pure (wpAny_pure ⟨plainId_quiet PySem.F.excBase_ValueError.init.plain _, codeAny_builtin PySem.F.excBase_ValueError.initEntry ?_⟩))
  refine PySem.W.exc_init_tree (c2 := .none) (c3 := .none) (b4 := .bool false) hx4 (by show 1 ≤ sizeLine; decide) fun h5 k5 hx5 _ => ?_
  have J5 := J2.write (t' := tt) (x := a) (e := a) (o := exo a C none) (by rw [ha]; exact True.intro) (.inl rfl) k5 ⟨_, hx5⟩ (exo_ok hx5)
  have eu : upd H2 a (exo a C none) = H2 := by
    funext b
    by_cases hb : b = a
    · rw [hb, upd_same, ha]
    · rw [upd_ne hb]
  rw [eu] at J5
  have v0 : Vis (ncx CX0 P w K mg base ["self", fld, "__class__"] F0 f A outer s H2 E).env.scope "self" := .inl (by subst hF0; exact S.par _ List.mem_cons_self)
  have v1 : Vis (ncx CX0 P w K mg base ["self", fld, "__class__"] F0 f A outer s H2 E).env.scope fld := .inl (by subst hF0; exact S.par _ (List.mem_cons_of_mem _ List.mem_cons_self))
  have hps := (pss_one (ps_ost (X := ncx CX0 P w K mg base ["self", fld, "__class__"] F0 f A outer s H2 E) (f := fld) (p' := p7) (pos := p9) (pe_var (i := 0) (pos := p6) rfl v0 (by decide) (by decide)) (pe_var (i := 1) (pos := p8) rfl v1 hfd hfc) (hsw _))).run [(h2.objs.size, PySem.W.kxs_mw "ValueError.__init__" a)] _ _ H2
    { nx := fun _ H' => Q .non H', rt := Q } J5 ⟨v, rfl, .ref a, rfl, a, C, rfl, T, hfld, .inl ⟨ha, fun dx n ne => hq dx n ne⟩⟩
  refine wpAt_of_wpAny (wpAny_mono hps (fun fl s' hs => ?_) fun e s' hs => hs)
  cases fl with
  | ret u =>
    obtain ⟨v', σ', H', J, rv, q⟩ := hs
    exact ⟨v', H', J.os, J.bare, J.base, J.hok, rv, q⟩
  | next =>
    obtain ⟨σ', H', J, q⟩ := hs
    exact ⟨.non, H', J.os, J.bare, J.base, J.hok, rfl, q⟩
  | brk =>
    obtain ⟨_, _, _, q⟩ := hs
    exact False.elim q
  | cont =>
    obtain ⟨_, _, _, q⟩ := hs
    exact False.elim q
end
end CW
/-! X2 -/
/-! X2: a map that is not good: need_good, crowds_of, crowd_tree_of raise. -/
namespace CW
open PySem PySem.Spec PyProof.Rows L2
structure HasX (P : Program) (w : World) (K : PySem.W.Frag) (mg : Str → Option Value) (base : Heap) (x : Str) (ps : List Str) (k : Nat) (sp : Sp) : Prop where
  ex : ∃ f fd, FnOk P w K mg base (L2.CX P w) k f fd ps sp ∧ mg x = some (.ref f) ∧ PySem.W.keepIn K (.ref f) = true ∧ Binds K fd ps []
theorem HasX.of {P : Program} {w : World} {K : PySem.W.Frag} {mg : Str → Option Value} {base : Heap} {x : Str} {ps : List Str} {k : Nat} {sp : Sp} {st : Stmt} {f : Addr} {fd : FuncData} (F : FnP K x x st f fd) (hm : mg x = some (.ref f)) (G : FnOk P w K mg base (L2.CX P w) k f fd ps sp)
    (h : ∀ (kV doc pm : Value) (an : Option Addr) (cdv ct : Value) (us : List Value), us.length = ps.length → bindArgs (PySem.W.fnOf x x (defArgs st) (defBody st) (defScope st) .none kV doc pm an cdv ct) ⟨us, []⟩ = pure (ps.zip us)) : HasX P w K mg base x ps k sp :=
  ⟨f, fd, G, hm, F.kp, F.bindsN h⟩
section
variable {X : Cx} {k j : Nat} {ps : List Str} {sp : Sp} {x : Str} {p pos : Pos} {e : Expr} {es : List Expr} {t : TA} {W : WX} {E : XK}
theorem pe_hx (h : HasX X.prog X.w X.K X.mg X.base x ps k sp) (tk : Takes X W) (hW : ∀ cls d σ H, E cls d H → W cls d σ H) (hr : Room j X.A) (ha : PA X (e :: es) t) (le : Nat.ble k j = true := by rfl) (hg : Gl X x := by rfl) (hdb : (x == ("__debug__" : Str)) = false := by decide)
    (he : starEach (e :: es) X.env = (false, eval e X.env) :: starEach es X.env := by rfl) (hpl : (backTo pos (starEach es X.env)).any (·.1) = false := by rfl) : PE X (.Call (.Name x p) (e :: es) [] pos) (tCall sp [] E t) := by
  obtain ⟨f, fd, F, m, kp, b⟩ := h.ex
  exact pe_call F (hr.mono (Nat.le_of_ble_eq_true le)) hg m kp b .nil (passes_call tk hW) ha hdb he hpl
end
/-- the def raises NotGood with the map's long ring -/
def spBad (Γ : Gam) (C NG : Addr) : Sp := fun vs H _ E => ∃ (g : Gr) (r : List Str) (S : Hp), g.Ok ∧ CT.peelingOf g.ps g.n = none ∧ CT.longRing g.ps g.n = some r ∧ Ok Γ S H ∧ AtAll S vs [chartD C g] ∧
  ∀ d S2 H2 v, Nx Γ S H S2 H2 → H2 d = some (.xd [("ring", v)]) → At S2 v (.tupX r) → E (.ref NG) (some d) H2
/-- what stands of NotGood -/
structure NgOk (P : Program) (w : World) (K : PySem.W.Frag) (mg : Str → Option Value) (base : Heap) (NG : Addr) : Prop where
  cls : OexC K NG
  m : mg "NotGood" = some (.ref NG)
  ini : ∃ fI fd, PySem.W.findIn K (.ref NG) "__init__" = some (some (.ref fI)) ∧ PySem.W.typeIn K (.ref fI) = some (.type "function") ∧ FnOk P w K mg base CX0 1 fI fd ["self", "ring"] (spIni NG "ring") ∧ Binds K fd ["self", "ring"] []
section
variable {P : Program} {w : World} {K : PySem.W.Frag} {mg : Str → Option Value} {base : Heap} {C NG : Addr} {f : Addr} {fd : FuncData} {Γ : Gam}
theorem bad_len {Γ : Gam} {vs : List V} {H : Hp} {Q : VK} {E : XK} (h : spBad Γ C NG vs H Q E) : vs.length = ["chart"].length := by
  obtain ⟨_, _, _, _, _, _, _, a, _⟩ := h
  rw [a.length]; rfl
theorem ok_need_bad (T : Kx K mg C) (N : NgOk P w K mg base NG) (F : FnP K "need_good" "need_good" (topS 34) f fd) (Gpeeling_of : Has P w K mg base "peeling_of" ["chart"] 9 (spF G0 (rPeelingOf C))) (Glong : Has P w K mg base "long_ring_of" ["chart"] 9 (spF G0 (rLongRing C))) :
    FnOk P w K mg base (L2.CX P w) 10 f fd ["chart"] (spBad Γ C NG) := by
  have nd := (sc_need_good).nd
  obtain ⟨fI, fdI, iC, tI, FI, bI⟩ := N.ini
  refine F.ok sc_need_good (fun vs H Q E h => bad_len h) fun cdv A outer s H vs Q E hr h => ?_
  have tk : Takes (cxOf (L2.CX P w) P w K mg base ["chart"] "need_good" (defScope (topS 34)) f cdv A outer s H E) (fun cls d _ H => E cls d H) := takes_of rfl rfl rfl rfl
  refine ⟨_, (pss_one (ps_if (pt_cmpR op_isN (pe_h Gpeeling_of hr (pa_cons (pv 0) pa_nil)) pe_non (nomark _)) (pss_one (ps_raise rfl tk (pmk_oex N.cls iC tI FI (hr.mono (by decide)) bI .nil pass0 (by rfl) N.m (pa_cons (pe_h Glong hr (pa_cons (pv 0) pa_nil)) pa_nil)))) pss_nil)), ?_⟩
  obtain ⟨g, r, S, hg, hp, hlr, k, al, q⟩ := h
  have sl : Sl S (L2.start ["chart"] vs) [some (chartD C g)] := by
    have := sl_start (n := 0) al
    unfold L2.start
    rw [al.length]
    exact this
  refine tv_test (Γ := Γ) (k := true) (EvD.is (ev_op (ev_call0 (av_cons (ev_var (i := 0) rfl) av_nil) ⟨g, hg, rfl, rfl⟩) ev_non rd_isN) (by rw [hp]; rfl)) _ S H sl k _ fun S1 H1 n1 => ?_
  rw [if_pos rfl]
  refine av_cons (Γ := Γ) (ev_call0 (R := rLongRing C) (av_cons (ev_var (i := 0) rfl) av_nil) ⟨g, hg, rfl, rfl⟩) av_nil _ S1 H1 (sl.mono n1.ex) n1.ok _ fun us S2 H2 n2 a2 => ?_
  rw [hlr] at a2
  cases a2 with
  | cons ha a3 =>
    cases a3
    rename_i v
    refine ⟨by show 1 ≤ 1000; decide, fun a hn => ?_⟩
    refine ⟨a, v, rfl, upd_same, fun dx hd hne => ⟨rfl, dx, [("ring", v)], upd_same, ?_, ?_, ?_⟩⟩
    · rw [upd_ne hne, upd_same]
    · rw [upd_ne hne] at hd; exact hd
    · have hd' : H2 dx = none := by rw [upd_ne hne] at hd; exact hd
      have eH : upd (del (upd (upd (upd H2 a (exo a NG none)) dx (exd dx [("ring", v)])) a (exo a NG (some dx))) a) dx (.xd [("ring", v)]) = upd H2 dx (.xd [("ring", v)]) := by
        funext b
        by_cases hb : b = dx
        · rw [hb, upd_same, upd_same]
        · rw [upd_ne hb, upd_ne hb]
          by_cases hb2 : b = a
          · rw [hb2, del_same, hn]
          · rw [del_ne hb2, upd_ne hb2, upd_ne hb, upd_ne hb2]
      rw [eH]
      exact q dx S2 _ v ((n1.trans n2).trans (.hid n2.ok hd' _)) upd_same ha
theorem ok_crowds_bad (F : FnP K "crowds_of" "crowds_of" (topS 35) f fd) (Gbad : HasX P w K mg base "need_good" ["chart"] 10 (spBad Γ C NG)) : FnOk P w K mg base (L2.CX P w) 11 f fd ["chart"] (spBad Γ C NG) := by
  have nd := (sc_crowds_of).nd
  refine F.ok sc_crowds_of (fun vs H Q E h => bad_len h) fun cdv A outer s H vs Q E hr h => ?_
  have tk : Takes (cxOf (L2.CX P w) P w K mg base ["chart", "numbers", "some", "found", "crowd", "place", "post", "later"] "crowds_of" (defScope (topS 35)) f cdv A outer s H E) (fun cls d _ H => E cls d H) := takes_of rfl rfl rfl rfl
  refine ⟨_, (pss_cons (ps_expr (pe_hx Gbad tk (fun _ _ _ _ z => z) hr (pa_cons (pv 0) pa_nil))) (pss_cons ps_never (pss_cons ps_never (pss_cons ps_never (pss_one ps_never))))), ?_⟩
  obtain ⟨v, rfl⟩ : ∃ v, vs = [v] := by
    have := bad_len h
    cases vs with
    | nil => cases this
    | cons a r =>
      cases r with
      | nil => exact ⟨a, rfl⟩
      | cons b r => cases this
  exact ⟨v, rfl, h⟩
theorem ok_tree_bad (F : FnP K "crowd_tree_of" "crowd_tree_of" (topS 40) f fd) (Gbad : HasX P w K mg base "crowds_of" ["chart"] 11 (spBad Γ C NG)) : FnOk P w K mg base (L2.CX P w) 12 f fd ["chart"] (spBad Γ C NG) := by
  have nd := (sc_crowd_tree_of).nd
  refine F.ok sc_crowd_tree_of (fun vs H Q E h => bad_len h) fun cdv A outer s H vs Q E hr h => ?_
  have tk : Takes (cxOf (L2.CX P w) P w K mg base ["chart", "lots", "pair", "crowds", "found"] "crowd_tree_of" (defScope (topS 40)) f cdv A outer s H E) (fun cls d _ H => E cls d H) := takes_of rfl rfl rfl rfl
  refine ⟨_, (pss_cons (ps_par (i := 3) (j := 4) rfl nd rfl rfl (by decide) rfl rfl (pa_cons (pe_hx Gbad tk (fun _ _ _ _ z => z) hr (pa_cons (pv 0) pa_nil)) (pa_cons (pe_lst pa_nil) pa_nil)) rfl) (pss_cons ps_never (pss_cons ps_never (pss_one ps_never)))), ?_⟩
  obtain ⟨v, rfl⟩ : ∃ v, vs = [v] := by
    have := bad_len h
    cases vs with
    | nil => cases this
    | cons a r =>
      cases r with
      | nil => exact ⟨a, rfl⟩
      | cons b r => cases this
  exact ⟨v, rfl, h⟩
end
end CW
/-! X3 -/
/-! X3: the law's refused, called with a lambda. -/
namespace CW
open PySem PySem.Spec PyProof.Rows L2 LamX
theorem sc__law_refused : FnScope ["_law_call", "_law_found", "e"] ["_law_call"] (defScope (topS 63)) := ⟨rfl, rfl, rfl, by decide +kernel, rfl, by decide +kernel, by decide +kernel⟩
/-- what refused makes of a call that raises NotGood -/
def TTref (NG : Addr) : (XK → Hp → VK → Prop) → Hp → VK → Prop := fun tl H Q => ∀ (p : Addr) (Q' : VK), H p = none → tl (fun cls d H' => cls = .ref NG ∧ ∃ dd v, d = some dd ∧ H' dd = some (.xd [("ring", v)]) ∧ ∀ l, H' l = none → Q (.ref l) (upd H' l (.lst [v]))) (upd H p (.lst [])) Q'
structure NgR (K : PySem.W.Frag) (NG : Addr) : Prop where
  xf : XfC K NG
  no : PySem.W.findIn K (.ref NG) "ring" = some none
  ex : PySem.W.exmOne K (.ref NG) (.ref NG) = some true
/-- the context of a def that got the lambda -/
abbrev zcx (X : Cx) (N : List Str) (x : Str) (sg : Scope) (g : Addr) (cdg : Value) (s : Shared) (H : Hp) : Cx := cxOf C8.CX0 X.prog X.w X.K X.mg X.base N x sg g cdg X.A X.stack s H C8.E0
/-- the lambda called, read there -/
def tAct (f c : Addr) (q : Str) (W : WX) (tl : XK → Hp → VK → Prop) : TE := fun τ G Q => τ[0]? = some (some (.ref f)) ∧ G c = some (CodeO c q) ∧ ∃ E : XK, (∀ cls d G', E cls d G' → W cls d τ G') ∧ tl E G Q
section
variable {X : Cx} {NG g : Addr} {cdg : Value} {q : Str}
theorem ref_body (N : NgR X.K NG) (hm : X.mg "NotGood" = some (.ref NG)) {f c : Addr} {s : Shared} {H : Hp} {Q : VK} {tl : XK → Hp → VK → Prop}
    (act : ∀ (W : WX) (pn : List (Addr × Obj)) (xe : Value → Shared → Prop), Takes ((zcx X ["_law_call", "_law_found", "e"] "_law_refused" (defScope (topS 63)) g cdg s H).tr pn xe) W → ∀ p1 p2 : Pos, PE ((zcx X ["_law_call", "_law_found", "e"] "_law_refused" (defScope (topS 63)) g cdg s H).tr pn xe) (.Call (.Name "_law_call" p1) [] [] p2) (tAct f c q W tl))
    (hc : H c = some (CodeO c q)) (h : TTref NG tl H Q) : ∃ t, PSs (zcx X ["_law_call", "_law_found", "e"] "_law_refused" (defScope (topS 63)) g cdg s H).nox (defBody (topS 63)) t ∧ t { nx := fun _ H' => Q .non H', rt := Q } (L2.start ["_law_call", "_law_found", "e"] [.ref f]) H := by
  have nd := (sc__law_refused).nd
  refine ⟨_, pss_cons (ps_set (i := 1) nd rfl (Or.inl rfl) (pe_lst pa_nil)) (pss_cons (ps_try_as (X := (zcx X ["_law_call", "_law_found", "e"] "_law_refused" (defScope (topS 63)) g cdg s H).nox) (c := .ref NG) (i := 2)
      (tb := fun W => tDrop (tAct f c q W tl))
      rfl rfl nd rfl rfl ⟨rfl, by decide, .inl hm⟩ LamX.takes0 (fun W pn xe tk _ => ?_) (fun a oe cls d pn hz hf => pss_one (ps_set (i := 1) nd rfl (Or.inl rfl) (pe_lst (pa_cons (pe_xf N.xf N.no hz hf (pv 2)) pa_nil)))))
      (pss_one (ps_ret (pv 1)))), ?_⟩
  · exact pss_one (ps_expr (act W pn xe tk _ _))
  · refine ⟨by show 0 ≤ sizeLine; exact Nat.zero_le _, fun p hp => ?_⟩
    have hc2 : upd H p (.lst []) c = some (CodeO c q) := by rw [upd_ne (ne_of_none hc hp)]; exact hc
    refine ⟨rfl, hc2, _, fun cls d H' hx => ?_, h p _ hp⟩
    obtain ⟨rfl, dd, v, rfl, hdd, hl⟩ := hx
    refine ⟨true, N.ex, fun _ a _ => ?_, fun z => by cases z⟩
    refine ⟨.ref a, rfl, rfl, rfl, dd, _, v, rfl, hdd, rfl, by show 1 ≤ sizeLine; decide, fun l hl2 => ?_⟩
    exact ⟨.ref l, rfl, hl l hl2⟩
end
/-! ### x(lambda: body) -/
section
variable {X : Cx} {pins : List (Addr × Obj)} {σ : L2.St} {H : Hp} {s : Shared}
theorem act_ok {N : List Str} {x a : Str} {sg scope : Scope} {g f c : Addr} {cdg pm ctv : Value} {params : Arguments} {body : Expr} {k : Nat} {pn : List (Addr × Obj)} {xe : Value → Shared → Prop} {W : WX} {tb : XK → TE} {p1 p2 : Pos}
    (I : Inv X pins σ H s) (L : LamS X.env.scope scope) (hf : s.heap.get? f = some (PySem.W.kla_obj "<lambda>" (X.env.qual ++ "<lambda>") params body scope (cloFrom X.env.cells scope.names []) pm c ctv)) (hfn : H f = none) (hfr : f ∉ frs X.stack)
    (hbind : bindArgs (PySem.W.kla_fn "<lambda>" (X.env.qual ++ "<lambda>") params body scope (cloFrom X.env.cells scope.names []) pm (.ref c) ctv) ⟨[], []⟩ = pure [])
    (tk : Takes ((zcx X N x sg g cdg s H).tr pn xe) W) (hr : Room (k + 1) (X.A.deeper (envOfC x sg s.heap.objs.size g cdg)))
    (hb : ∀ (E : XK) (A : Around) (out : List Env) (s : Shared) (H : Hp), Room k (A.deeper (lamEnv X scope s.heap.objs.size f c)) → PE (lamCx X A out s H E scope f c) body (tb E))
    (hN : N[0]? = some a) (hv : Vis sg a) (hd : (a == ("__debug__" : Str)) = false := by decide) (hcd : (a == ("__classdict__" : Str)) = false := by decide) :
    PE ((zcx X N x sg g cdg s H).tr pn xe) (.Call (.Name a p1) [] [] p2) (tAct f c (X.env.qual ++ "<lambda>") W fun E G Q => tb E σ G Q) := by
  refine ⟨fun pz sz τ G Q J hz => ?_⟩
  obtain ⟨h0, hco, E, hE, ht⟩ := hz
  refine wpAny_Call_Name_kw (thn ((pe_var (pos := p1) (i := 0) hN hv hd hcd).run pz sz τ G (fun v G1 => v = .ref f ∧ G1 = G) J ⟨_, h0, rfl, rfl⟩) fun u s1 ⟨v, G1, J1, rv, ev, eG⟩ => ?_)
  subst ev eG
  obtain rfl : u = Value.ref f := rv
  have stays : s1.heap.get? f = some (PySem.W.kla_obj "<lambda>" (X.env.qual ++ "<lambda>") params body scope (cloFrom X.env.cells scope.names []) pm c ctv) := J1.base.keep f _ hf hfn hfr (fun z => by cases z)
  refine PySem.W.callWith_F0 ⟨_, _, _, _, stays⟩ ?_
  have grown : Un (frs X.stack) [] H G1 s.heap s1.heap := J1.base
  obtain ⟨⟨o1, w1, t1, y1, y2, y3⟩, _, _⟩ := J1.hok c _ hco
  have ran : codeAny (model X.prog X.w) (X.A.deeper (envOfC x sg s.heap.objs.size g cdg)) (.call (.ref f) ⟨[], []⟩) (CR (L2.CX X.prog X.w) (envOfC x sg s.heap.objs.size g cdg :: X.stack) X.prog X.w G1 s1 Q E) s1 := by
    refine PySem.W.kla_callFunE hr.depth stays rfl L.co L.gen rfl ⟨c, o1, w1, t1, rfl, y1, y2, y3⟩ ?_
    rw [hbind]
    refine wpAny_pure (wpAny_newFunctionEnv (fun y hy => (L.own y hy).2) (fun y hy => by cases hy) (fun h1 hns hsb => ⟨J1.nolimit.fresh _ hsb, ?_⟩) L.kind)
    have kept : ∀ b o, s1.heap.get? b = some o → h1.get? b = some o := fun b o e => hsb.extBut b o (Nat.ne_of_lt (Heap.lt_size e)) (Heap.get?_push_of_some _ e)
    have J2 := lam_start2 (E := E) (f := f) (c' := c) (tk := s1.toks + ([] : List (Str × Value)).length) I L J1.env0 hr.hd grown hns kept
    refine PySem.W.kla_codeExpr (wpAny_mono ((hb E _ _ s1 G1 (hr.deeper _)).run [] _ _ G1 Q J2 ht) (fun v s2 hq => ?_) fun e s2 hq => hq)
    obtain ⟨v2, G2, J3, rv2, q2⟩ := hq
    exact ⟨v2, G2, J3.os, J3.bare, J3.base, J3.hok, rv2, q2⟩
  refine wpAny_call (codeAny_mono ran fun r s2 hq => ?_)
  cases r with
  | error e => exact tk e s2 (XE.of_call J1 (fun cls d G' h => hE cls d G' h) hq)
  | ok fl =>
    cases fl with
    | ret u => exact J1.after hq
    | next => cases hq
    | brk => cases hq
    | cont => cases hq
end
/-- x(lambda: body), its reading -/
def tLamP (T : List (Addr × Str)) (P : Addr) (TT : (XK → Hp → VK → Prop) → Hp → VK → Prop) (t : XK → TE) : TE := fun σ H Q => Tabs T H ∧ ∀ H1, (∀ b o, b ≠ P → H b = some o → H1 b = some o) → Tabs T H1 → TT (fun E G Q' => t E σ G Q') H1 Q
theorem pe_refused {X : Cx} {NG g c P : Addr} {T : List (Addr × Str)} {k : Nat} {fd : FuncData} {params : Arguments} {body : Expr} {scope : Scope} {t : XK → TE} {p lpos pos : Pos} (N : NgR X.K NG) (hmN : X.mg "NotGood" = some (.ref NG)) (F : FnP X.K "_law_refused" "_law_refused" (topS 63) g fd) (hm : X.mg "_law_refused" = some (.ref g)) (bnd : Binds X.K fd ["_law_call"] [])
    (TB : TabB X.base X.mg c P) (hcode : X.env.code = .ref c) (hT : (P, X.env.qual ++ "<lambda>") ∈ T) (hu : ∀ p ∈ T, p.1 = P → p.2 = X.env.qual ++ "<lambda>") (hr : Room (k + 2) X.A) (L : LamS X.env.scope scope) (hdef : defaultsOf params X.env = ([], [])) (hbind : ∀ (q : Str) (cl : List (Str × Addr)) (pm cv ctv : Value), bindArgs (PySem.W.kla_fn "<lambda>" q params body scope cl pm cv ctv) ⟨[], []⟩ = pure [])
    (hbody : ∀ (E : XK) (A : Around) (out : List Env) (s : Shared) (H : Hp) (f c : Addr), Room k (A.deeper (lamEnv X scope s.heap.objs.size f c)) → PE (lamCx X A out s H E scope f c) body (t E)) (hg : Gl X "_law_refused" := by rfl) :
    PE X (.Call (.Name "_law_refused" p) [.Lambda params body scope lpos] [] pos) (tLamP T P (TTref NG) t) := by
  obtain ⟨oc, od, dV, kV, doc, pm, an, cdv, ct, osl, rfl, lk, hcd, _, _⟩ := F.ex
  refine ⟨fun pins s σ H Q I h => ?_⟩
  obtain ⟨hT0, h⟩ := h
  refine wpAny_Call_Name_kw (ld_glob I hg hm ?_ (by decide))
  refine PySem.W.callWith_K (h₀ := X.base) I.ok.mod.kin F.kp ?_ (by rfl) (by rfl)
  show wpAny _ _ (spliced ((false, eval (.Lambda params body scope lpos) X.env) :: [])) _ _ s
  refine Calls.spliced_cons (lam_born I TB hcode hT hu hT0 hdef (L.has I.ok) fun f c2 pm2 ctv H1 s1 I1 eN T1 hf hfn hfr hco => Calls.spliced_nil ⟨I1.kIn, ?_⟩)
  have ran : codeAny (model X.prog X.w) X.A (.call (.ref g) ⟨[.ref f], []⟩) (CR C8.CX0 X.stack X.prog X.w H1 s1 Q C8.E0) s1 := by
    refine run_ofS (N := ["_law_call", "_law_found", "e"]) (ps := ["_law_call"]) (us := [.ref f]) (vs := [.ref f]) lk hcd sc__law_refused hr I1.env0 (bnd s1 [.ref f] I1.kIn rfl) (.cons rfl .nil) rfl fun hr2 => ?_
    obtain ⟨t2, h1, h2⟩ := ref_body N hmN (tl := fun E G Q' => t E σ G Q') (fun W pn xe tk p1 p2 => act_ok I1 L hf hfn hfr (hbind _ _ _ _ _) tk hr2 (fun E A out s H hr3 => hbody E A out s H f c2 hr3) rfl (Or.inl rfl)) hco (h H1 eN T1)
    exact ⟨t2, h1.nox, h2⟩
  refine wpAny_call (codeAny_mono ran fun r s2 hq => ?_)
  cases r with
  | error e => cases hq
  | ok fl =>
    cases fl with
    | ret u => exact I1.after hq
    | next => cases hq
    | brk => cases hq
    | cont => cases hq
end CW
/-! P25 -/
/-! P25: the law. -/
namespace CW
open PySem PySem.Spec PyProof.Rows L2 LamX
/-- a promise for any source -/
def spX (f : Addr → Addr → Sp) : Sp := fun vs H Q E => ∃ s c, f s c vs H Q E
theorem ok_spX {P : Program} {w : World} {K : PySem.W.Frag} {mg : Str → Option Value} {base : Heap} {CX : CXT} {k : Nat} {f : Addr} {fd : FuncData} {ps : List Str} {sp : Addr → Addr → Sp} (h : ∀ s c, FnOk P w K mg base CX k f fd ps (sp s c)) : FnOk P w K mg base CX k f fd ps (spX sp) :=
  ⟨fun vs H Q E ⟨s, c, z⟩ => (h s c).len vs H Q E z, fun A outer s H args us vs Q E hr e b r ⟨s2, c2, z⟩ => (h s2 c2).run A outer s H args us vs Q E hr e b r z⟩
section
variable {T : List (Addr × Str)} {s c : Addr} {ρ : Rho} {μ : Mus} {t : TA} {as : List D} {E : XK} {d : D} {K : PySem.W.Frag}
theorem evp_callX {R : Addr → List D → (D → Prop) → Prop} {P : D → Prop} (ha : AvD (ΓS T s c) t ρ as) (hr : R s as P) : EvP (ΓS T s c) (tCall (spX fun s c => spP (ΓS T s c) (R s)) [] E t) ρ P := fun σ S H sl o Q q => ha σ S H sl o _ fun vs S1 H1 n h1 =>
  ⟨s, c, as, P, S1, n.ok, by rw [List.append_nil]; exact h1, hr, fun v S2 H2 d hd m a => q v S2 H2 d hd (n.trans m) a⟩
theorem ev_callX {R : List D → D → Prop} (ha : AvD (ΓS T s c) t ρ as) (hr : R as d) : EvD (ΓS T s c) (tCall (spX fun s c => spF (ΓS T s c) R) [] E t) ρ d := fun σ S H sl o Q q => ha σ S H sl o _ fun vs S1 H1 n h1 =>
  ⟨s, c, as, d, S1, n.ok, by rw [List.append_nil]; exact h1, hr, fun v S2 H2 m a => q v S2 H2 (n.trans m) a⟩
theorem en_callX {R : List D → D → Prop} (ha : AvD (ΓS T s c) t ρ as) (hr : R as d) : EvN (ΓS T s c) (tCall (spX fun s c => spN (ΓS T s c) R) [] E t) ρ d := fun σ S H sl o Q q => ha σ S H sl o _ fun vs S1 H1 n h1 =>
  ⟨s, c, as, d, S1, n.ok, by rw [List.append_nil]; exact h1, hr, fun p S2 H2 o m hp hs ho a => q p S2 H2 o (n.trans m) (live_of n hp) hs ho a⟩
theorem svp_go {Γ : Gam} {S H : Hp} {σ : L2.St} {t : TS} {O : Out → Prop} (h : SvP Γ t ρ [] O) (k : Ok Γ S H) (sl : Sl S σ ρ) {Dn : Ends} (q : ∀ o, O o → o.meet Γ S H S Dn) : t Dn σ H := h S H S S H σ k (.refl k) (Ex.refl _) sl .nil Dn q
/-- refused(lambda: crowd_tree_of(map)) of a bad map -/
theorem ev_lam {C NG Pt : Addr} {i : Nat} {g : Gr} {r : List Str} (L : LamOk (ΓS T s c) T Pt) (hi : ρ[i]? = some (some (chartD C g))) (hg : g.Ok) (h0 : CT.peelingOf g.ps g.n = none) (hr : CT.longRing g.ps g.n = some r) :
    EvD (ΓS T s c) (tLamP T Pt (TTref NG) fun E => tCall (spX fun s c => spBad (ΓS T s c) C NG) [] E (tCons (tVar i) tNil)) ρ (.lst [.tupX r]) := fun σ S H sl k Q q => by
  refine ⟨L.tab H k.j, fun H1 e1 T1 p Q' hp => ?_⟩
  have n1 := L.made S H H1 k e1 T1
  obtain ⟨v, g1, a1⟩ := sl.at_ i _ hi
  have n2 : Nx (ΓS T s c) S H1 S (upd H1 p (.lst [])) := .hid n1.ok hp _
  refine ⟨v, g1, s, c, g, r, S, hg, h0, hr, n2.ok, .cons a1 .nil, fun d S2 H2 u m hd au => ⟨rfl, d, u, rfl, hd, fun l hl => ?_⟩⟩
  have n4 := ((n1.trans n2).trans m).trans (.new m.ok hl (.lst [u]))
  exact q _ _ _ n4 (.lst upd_same (.cons (au.mono (Ex.new (m.ok.fresh hl))) .nil))
/-- y = list(x), x a mutable local -/
theorem sv_copy {Γ : Gam} {ds : List D} {i j : Nat} (hm : getM μ i = some (.lst ds)) (hj : isIn μ j = false := by rfl) : SvD Γ (tAsg (tCB (fun xs H Q => ∃ p ys, xs = [.ref p] ∧ (SqL K H p ys ∨ SqT K H p ys) ∧ ∀ l, H l = none → Q (.ref l) (upd H l (.lst ys))) (tCons (tVar i) tNil)) (gName j)) ρ μ (.nx (ρ.set j (some (.lst ds))) μ) := fun S0 H0 F S H σ k0 n f sl m Dn q => by
  obtain ⟨p, o, h1, h2, h3, h4, h5⟩ := m.at_ i _ (getM_mem hm)
  cases h5 with
  | lst al =>
    rename_i vs
    refine ⟨_, h1, p, _, rfl, .inl (.of h4), fun l hl => ?_⟩
    have nn := Nx.new n.ok hl (.lst vs)
    exact q _ _ _ (n.trans nn) (f.trans nn.ex) ((sl.mono nn.ex).set j (.lst upd_same (al.mono nn.ex))) ((m.step k0 nn).set (not_in hj) _)
end
/-! ### equal data -/
theorem eqOn_pr : EqOn prD (fun _ => True) := fun a b _ _ => by
  obtain ⟨a1, a2⟩ := a
  obtain ⟨b1, b2⟩ := b
  have h := eqvAll_map eqOn_nI [a1, a2] [b1, b2] (fun _ _ => trivial) (fun _ _ => trivial)
  show PyData.eqvAll _ _ = _
  rw [show pyAll [nI a1, nI a2] = pyAll ([a1, a2].map nI) from rfl, show pyAll [nI b1, nI b2] = pyAll ([b1, b2].map nI) from rfl, h]
  exact decide_eq_decide.mpr (by simp)
theorem eqk_pr {k : Nat} (p : CT.Pr) : Eqk (k + 1) (prD p) := eqk_tup (xs := [p.1, p.2]) (enc := nI) fun x _ => eqk_int _
theorem py_tupX (r : List Str) : (D.tupX r).py = (tS r).py := by
  show _ = (D.tup (sS r)).py
  rw [D.py, D.py, pyAll_map]
  exact congrArg PyData.tuple (List.map_congr_left fun x _ => by rw [D.py])
theorem rd_neX {Γ : Gam} {K : PySem.W.Frag} {r : List Str} (hr : ∀ x ∈ r, Word x) : RD2 Γ (rNeD K) (.lst [.tupX r]) (.lst [.tupX r]) (.bl false) := by
  have e : (D.lst [.tupX r]).py = (D.lst ([r].map tS)).py := by
    rw [D.py, D.py, List.map_cons, List.map_nil, pyAll, pyAll, pyAll, py_tupX]; rfl
  have k1 : Eqk 2 (.lst ([r].map tS)) := eqk_lst (xs := [r]) (enc := tS) fun x hx => eqk_tup fun y hy => eqk_str (hr y (List.mem_singleton.mp hx ▸ hy)).ok
  have hb : Eqb (.lst [.tupX r]) := ⟨by
    rw [D.ok, okAll, okAll, D.ok, Bool.and_true]
    exact List.all_eq_true.mpr fun x hx => (hr x hx).ok, by rw [e]; exact (k1.b).dep⟩
  have h := rd_neD (Γ := Γ) (K := K) hb hb
  have e2 : PyData.eqv (D.lst [.tupX r]).py (D.lst [.tupX r]).py = true := by
    rw [e]
    have := eqOn_lst (eqOn_tup eqOn_str) [r] [r] (fun _ _ _ _ => trivial) (fun _ _ _ _ => trivial)
    exact this.trans (decide_eq_true rfl)
  rw [e2] at h
  exact h
end CW
/-! P26 -/
/-! P26: the law. -/
namespace CW
open PySem PySem.Spec PyProof.Rows L2 LamX
def spLaw (K : PySem.W.Frag) (T : List (Addr × Str)) : Sp := fun vs H Q _ => ∃ (a : Addr) (ns : List Int), vs = [.ref a] ∧ SqL K H a (ns.map V.int) ∧ ns.length ≤ 100 ∧ Tabs T H ∧ ∀ H', Q (.bl true) H'
abbrev qLaw : Str := (envOfC "law" (defScope (topS 67)) 0 0 .none).qual ++ "<lambda>"
abbrev ρ9 (a s : Addr) : Rho := [some (.opq a), some (.opq s), none, none, none, none, none, none, none]
theorem first_go {t u : TS} {te : TE} {i : Nat} {σ : L2.St} {H : Hp} {Dn : Ends} (h : te σ H fun v H' => tSeq t u Dn (σ.set i (some v)) H') : tSeq (tAsg te (gName i)) (tSeq t u) Dn σ H := h
theorem crowds0 : CT.crowds (grOf [] []).ps (grOf [] []).n [] = [] := by unfold CT.crowds CT.crowdsRaw CT.laterNear; simp
theorem tree0 : CT.tree (CT.crowds (grOf [] []).ps (grOf [] []).n []) = [] := by
  rw [crowds0]
  exact List.eq_nil_of_length_eq_zero (Nat.le_zero.mp (tree_len (cs := [])))
theorem judge0 : judgeB (grOf [] []) [] = true := by
  unfold judgeB
  rw [show CT.peelingOf (grOf [] []).ps (grOf [] []).n = some [] from rfl]
  show (match CT.judge (CT.crowds (grOf [] []).ps (grOf [] []).n []) [] with | none => false | some s => decide (s.2 + (grOf [] []).ps.length = ((CT.crowds (grOf [] []).ps (grOf [] []).n []).map List.length).sum)) = true
  rw [crowds0]
  rfl
section
variable {P : Program} {w : World} {K : PySem.W.Frag} {mg : Str → Option Value} {base : Heap} {C NG gR Pl c : Addr} {f : Addr} {fd fdR : FuncData} {T : List (Addr × Str)}
theorem sc_law : FnScope ["_law_script", "_law_source_here", "_law_lap", "_law_world", "_law_made_here", "_law_crowds_here", "_law_told", "_law_kept", "_law_rings"] ["_law_script"] (defScope (topS 67)) := ⟨rfl, rfl, rfl, by decide +kernel, rfl, by decide +kernel, by decide +kernel⟩
theorem ok_law (Tk : Kx K mg C) (F : FnP K "law" "law" (topS 67) f fd) (hc : fd.code = .ref c) (TB : TabB base mg c Pl) (hT : (Pl, qLaw) ∈ T) (huT : ∀ p ∈ T, p.1 = Pl → p.2 = qLaw)
    (Nr : NgR K NG) (hmN : mg "NotGood" = some (.ref NG)) (FR : FnP K "_law_refused" "_law_refused" (topS 63) gR fdR) (hmR : mg "_law_refused" = some (.ref gR)) (bR : Binds K fdR ["_law_call"] [])
    (G_law_source : Has P w K mg base "_law_source" ["_law_script"] 1 (spSrc K))
    (G_law_some_map : Has P w K mg base "_law_some_map" ["_law_source_here", "_law_most"] 8 (spX fun s c => spP (ΓS T s c) (rSomeMap C s)))
    (G_law_map : Has P w K mg base "_law_map" ["_law_source_here", "_law_most"] 7 (spX fun s c => spP (ΓS T s c) (rLMap C s)))
    (G_law_peeled : Has P w K mg base "_law_peeled" ["_law_world"] 3 (spF G0 (rLPeeled C)))
    (G_law_is_long : Has P w K mg base "_law_is_long" ["_law_world", "_law_value"] 3 (spF G0 (rLRing C)))
    (G_law_crowds : Has P w K mg base "_law_crowds" ["_law_world"] 3 (spF G0 (rLCr C 8)))
    (G_law_quick : Has P w K mg base "_law_quick" ["_law_world"] 4 (spF G0 (rLCr C 16)))
    (G_law_is_tree : Has P w K mg base "_law_is_tree" ["_law_world", "_law_crowds_here", "_law_value"] 1 (spF G0 (rLTree C)))
    (Glong_ring_of : Has P w K mg base "long_ring_of" ["chart"] 9 (spF G0 (rLongRing C)))
    (Gcrowd_tree_of : Has P w K mg base "crowd_tree_of" ["chart"] 12 (spX fun s c => spN (ΓS T s c) (rTree C)))
    (Gbad : HasX P w K mg base "crowd_tree_of" ["chart"] 12 (spX fun s c => spBad (ΓS T s c) C NG))
    (Gjudge : Has P w K mg base "judge_crowd_tree" ["chart", "value"] 12 (spX fun s c => spF (ΓS T s c) (rJudge C)))
    (MK : HasMk P w K mg base C) : FnOk P w K mg base CX0 15 f fd ["_law_script"] (spLaw K T) := by
  have nd := (sc_law).nd
  have B := Tk.b
  obtain ⟨oc, od, dV, kV, doc, pm, an, cdv, ct, osl, rfl, lk, hcd, _, _⟩ := F.ex
  obtain rfl : cdv = Value.ref c := hc
  refine fn_of lk hcd sc_law (fun vs H Q E h => ?_) fun A outer s0 H vs Q E hr h => ?_
  · obtain ⟨a, ns, rfl, _⟩ := h; rfl
  have hu := hu_of hr
  refine ⟨_, PSs.nox (pss_cons (ps_set (i := 1) nd rfl (Or.inl rfl) (pe_h G_law_source hr (pa_cons (pv 0) pa_nil)))
    (pss_cons (ps_for PassesOwn.never rfl (pi_range1 rfl B.range (pa_cons pe_int pa_nil)) (pg_name (i := 2) nd rfl (Or.inl rfl))
    (pss_cons (ps_set (i := 3) nd rfl (Or.inl rfl) (pe_ifExp (pt_cmpR op_lt (pv 2) pe_int (nomark _)) (pe_h G_law_some_map hr (pa_cons (pv 1) (pa_cons (pe_ix (w_ixL K) (pe_lst (pa_cons pe_int (pa_cons pe_int (pa_cons pe_int pa_nil)))) (pv 2) (fun _ _ => rfl)) pa_nil))) (pe_h G_law_map hr (pa_cons (pv 1) (pa_cons pe_int pa_nil)))))
    (pss_cons (ps_set (i := 4) nd rfl (Or.inr rfl) (pe_dget hu (pv 3) pe_str (fun _ _ => rfl)))
    (pss_cons (ps_if (pt_cmpR op_isN (pe_h G_law_peeled hr (pa_cons (pv 3) pa_nil)) pe_non (nomark _)) (pss_cons (ps_set (i := 8) nd rfl (Or.inl rfl) (pe_refused (k := 12) (t := fun E => tCall (spX fun s c => spBad (ΓS T s c) C NG) [] E (tCons (tVar 4) tNil)) Nr hmN FR hmR bR TB rfl hT huT hr (lamS_by (by kernel_rfl)) (by rfl) (fun _ _ _ _ _ => rfl)
      (fun E A2 out s2 H2 f2 c2 hr2 => pe_hx (W := fun cls d _ H => E cls d H) Gbad (takes_of rfl rfl rfl rfl) (fun _ _ _ _ z => z) hr2 (pa_cons (pv 4) pa_nil))))
    (pss_cons (ps_if (PW.pt (pw_or (pt_cmpR (w_neD K hr) (pv 8) (pe_lst (pa_cons (pe_h Glong_ring_of hr (pa_cons (pv 4) pa_nil)) pa_nil)) (nomark _)) (pw_or (pt_not (pt_val (pe_h G_law_is_long hr (pa_cons (pv 3) (pa_cons (pe_ix (w_ixL K) (pv 8) pe_int (fun _ _ => rfl)) pa_nil))))) (pw_or1 (pt_cmpR op_notBl (pe_h Gjudge hr (pa_cons (pv 4) (pa_cons (pe_lst pa_nil) pa_nil))) pe_bl (nomark _)))))) (pss_one (ps_ret pe_bl)) pss_nil)
    (pss_one ps_continue))) pss_nil)
    (pss_cons (ps_set (i := 5) nd rfl (Or.inl rfl) (pe_ifExp (pt_cmpR op_lt (w_len K B (pa_cons (pe_dget hu (pv 3) pe_str (fun _ _ => rfl)) pa_nil)) pe_int (nomark _)) (pe_h G_law_crowds hr (pa_cons (pv 3) pa_nil)) (pe_h G_law_quick hr (pa_cons (pv 3) pa_nil))))
    (pss_cons (ps_set (i := 6) nd rfl (Or.inl rfl) (pe_h Gcrowd_tree_of hr (pa_cons (pv 4) pa_nil)))
    (pss_cons (ps_if (PW.pt (pw_or (pt_not (pt_val (w_isi K B (pa_cons (pv 6) (pa_cons (pe_bltn (v := .ty "list") (by rfl) B.list (by decide +kernel) rfl) pa_nil))))) (pw_or (pt_not (pt_val (pe_h G_law_is_tree hr (pa_cons (pv 3) (pa_cons (pv 5) (pa_cons (pv 6) pa_nil)))))) (pw_or1 (pt_cmpR op_notBl (pe_h Gjudge hr (pa_cons (pv 4) (pa_cons (pv 6) pa_nil))) pe_bl (nomark _)))))) (pss_one (ps_ret pe_bl)) pss_nil)
    (pss_cons (ps_set (i := 7) nd rfl (Or.inl rfl) (w_list K B (pa_cons (pv 6) pa_nil)))
    (pss_cons (ps_expr (pe_bm PySem.F.plainAttrs_list PySem.F.slot_list_append PySem.F.type_list_append mt_append (pv 6) (pa_cons pe_non pa_nil)))
    (pss_one (ps_if (pt_cmpR (w_neD K hr) (pe_h Gcrowd_tree_of hr (pa_cons (pv 4) pa_nil)) (pv 7) (nomark _)) (pss_one (ps_ret pe_bl)) pss_nil)))))))))))
    (pss_one (ps_ret (pe_and (pe_cmpR (w_eqD K hr) (pe_h Gcrowd_tree_of hr (pa_cons (pe_mk MK hr (pa_cons (pe_lst pa_nil) (pa_cons (pe_lst pa_nil) pa_nil))) pa_nil)) (pe_lst pa_nil) (nomark _)) (pe_one (pe_cmpR op_isBl (pe_h Gjudge hr (pa_cons (pe_mk MK hr (pa_cons (pe_lst pa_nil) (pa_cons (pe_lst pa_nil) pa_nil))) (pa_cons (pe_tup pa_nil) pa_nil))) pe_bl (nomark _)))))))), ?_⟩
  obtain ⟨a, ns, rfl, hS, hz, hTab, q⟩ := h
  refine first_go ?_
  refine ⟨_, rfl, ⟨a, ns, rfl, hS, hz, fun s cc H2 keep hs hcc src => ?_⟩⟩
  have k0 : Ok (ΓS T s cc) (fun _ => none) H2 := ⟨fun _ _ z => (nomatch z), ⟨fun p hp => (hTab p hp).ext keep, src⟩, fun _ _ => rfl⟩
  have sl : Sl (fun _ => none) [some (V.ref a), some (V.ref s), none, none, none, none, none, none, none] (ρ9 a s) := sl_start (n := 7) (.cons (.opq a) (.cons (.opq s) .nil))
  show tSeq _ _ _ _ _
  refine svp_go (Γ := ΓS T s cc) (S := fun _ => none) (ρ := ρ9 a s) (O := fun o => o = .rt (.bl true)) ?_ k0 sl fun o ho => ?_
  rotate_left
  · subst ho
    intro v S3 H3 n3 a3
    cases a3
    exact q H3
  refine svp_seq (svp_for (O := fun o => o = .nx (ρ9 a s) []) (vs := [2, 3, 4, 5, 6, 7, 8]) (xs := List.range 3) (enc := nI) (wv_rng1 (n := 3) (av_cons ev_int av_nil) (by omega)) (fun _ ρ μ => ρ = ρ9 a s ∧ μ = []) ⟨rfl, rfl⟩ (fun i x ρi μi hx hI => ?_) fun ρ' μ' hI => by rw [hI.1, hI.2]) fun o ho => ?_
  · obtain ⟨rfl, rfl⟩ := hI
    have hx3 : x < 3 := List.mem_range.mp (List.mem_of_getElem? hx)
    obtain ⟨m, hm1, hm2, hm⟩ : ∃ m : Nat, 7 ≤ m ∧ m ≤ 16 ∧ ([D.int 7, .int 10, .int 10] : List D)[x]? = some (nI m) := by
      match x, hx3 with
      | 0, _ => exact ⟨7, by decide, by decide, rfl⟩
      | 1, _ => exact ⟨10, by decide, by decide, rfl⟩
      | 2, _ => exact ⟨10, by decide, by decide, rfl⟩
    refine ⟨_, gv_name (by decide), fun j _ => rfl, svp_seq (svp_asg (P := isW C) (evp_if (tv_test (ev_op (ev_var rfl) ev_int rd_lt)) (fun _ => evp_callX (av_cons (ev_var rfl) (av_cons (ev_op (ev_lst (av_cons ev_int (av_cons ev_int (av_cons ev_int av_nil)))) (ev_var rfl) (rd_ixL (n := x) rfl hm)) av_nil)) ⟨m, hm1, hm2, rfl, rfl⟩)
      fun _ => evp_callX (av_cons (ev_var rfl) (av_cons ev_int av_nil)) ⟨16, by decide, by decide, rfl, rfl⟩)) fun o ho => ?_⟩
    obtain ⟨d, ⟨ps, ts, hw, rfl⟩, rfl⟩ := ho
    have g := hw.g
    have rf : ∀ x, nearOf ts x x = true := g.rf
    have sy : ∀ x y, nearOf ts x y = nearOf ts y x := g.sy
    refine svp_seqD (sv_asg (d := chartD C (grOf ps ts)) (ev_dget (ev_var rfl) ev_str rfl)) ?_
    cases hp : CT.peelingOf ps (nearOf ts) with
    | none =>
      have hbad : (CT.peeled ps (nearOf ts)).2 ≠ [] := fun z => by
        unfold CT.peelingOf at hp
        rw [if_pos z] at hp
        cases hp
      obtain ⟨r, hr⟩ := CT.longRing_some hw.p.nd sy rf hbad
      have lr := CT.longRing_ok hw.p.nd sy rf hr
      refine SvP.imp ((sv_seq_ct (sv_if (k := true) (tv_test (EvD.is (ev_op (ev_call0 (av_cons (ev_var rfl) av_nil) ⟨ps, ts, hw, rfl, rfl⟩) ev_non rd_isN) (by rw [hp]; rfl))) (fun _ => sv_seq (sv_asg (ev_lam (g := grOf ps ts) (r := r) (lamOkS hT) rfl hw.g hp hr)) (sv_seq (sv_if (k := false) (TvD.is (tv_or (tv_test (ev_op (ev_var rfl) (ev_lst (av_cons (EvD.is (ev_call0 (av_cons (ev_var rfl) av_nil) ⟨grOf ps ts, hw.g, rfl, rfl⟩) (congrArg optX hr)) av_nil)) (rd_neX fun y hy => hw.p.wd y (lr.on y hy)))) fun _ =>
        tv_or (tv_not (tv_B (ev_call0 (av_cons (ev_var rfl) (av_cons (ev_op (ev_var rfl) ev_int (rd_ixL (n := 0) rfl rfl)) av_nil)) ⟨ps, ts, r, hw, rfl, lr, rfl⟩))) fun _ => tv_test (ev_op (ev_callX (av_cons (ev_var rfl) (av_cons (ev_lst av_nil) av_nil)) ⟨grOf ps ts, [], hw.g, .inl rfl, fun _ _ q hq => (nomatch hq), rfl⟩) ev_bl rd_notB)) ?_) (fun h => by cases h) fun _ => sv_next) sv_cont)) (fun h => by cases h))).p rfl) fun o ho => ?_
      · have e : judgeB (grOf ps ts) [] = false := by unfold judgeB; rw [show CT.peelingOf (grOf ps ts).ps (grOf ps ts).n = none from hp]
        rw [e]; rfl
      · subst ho
        exact ⟨_, _, .inr rfl, rfl, rfl⟩
    | some p =>
      have cr := CT.cr_of hw.p.nd rf sy hp
      have co : CrOk (CT.crowds ps (nearOf ts) p) := cr_ok hw.g hp
      obtain ⟨js, jt, jw⟩ := CT.judge_tree cr
      have jb : judgeB (grOf ps ts) (CT.tree (CT.crowds ps (nearOf ts) p)) = true := by
        unfold judgeB
        rw [show CT.peelingOf (grOf ps ts).ps (grOf ps ts).n = some p from hp]
        show (match CT.judge (CT.crowds ps (nearOf ts) p) (CT.tree (CT.crowds ps (nearOf ts) p)) with | none => false | some s => decide (s.2 + ps.length = _)) = true
        rw [jt]
        exact decide_eq_true jw
      have jo : ∀ p', CT.peelingOf (grOf ps ts).ps (grOf ps ts).n = some p' → ∀ q ∈ CT.tree (CT.crowds ps (nearOf ts) p), CT.PrOk (CT.crowds (grOf ps ts).ps (grOf ps ts).n p').length q := fun p' hp' q hq => by
        have e : some p' = some p := hp'.symm.trans hp
        cases e
        exact (CT.tree_mem hq).1
      have tz : (CT.tree (CT.crowds ps (nearOf ts) p)).length ≤ 16 := Nat.le_trans tree_len co.sz
      refine SvP.imp ((sv_seq (sv_if (k := false) (tv_test (EvD.is (ev_op (ev_call0 (av_cons (ev_var rfl) av_nil) ⟨ps, ts, hw, rfl, rfl⟩) ev_non rd_isN) (by rw [hp]; rfl))) (fun h => by cases h) fun _ => sv_next)
        (sv_seq (sv_asg (d := crD (CT.crowds ps (nearOf ts) p)) (ev_if (tv_test (ev_op (ev_cb (av_cons (ev_dget (ev_var rfl) ev_str rfl) av_nil) ra_len) ev_int rd_lt)) (fun h => ev_call0 (av_cons (ev_var rfl) av_nil) ⟨ps, ts, p, hw, (by have h := of_decide_eq_true h; rw [List.length_map] at h; omega), rfl, hp, rfl⟩) fun _ => ev_call0 (av_cons (ev_var rfl) av_nil) ⟨ps, ts, p, hw, hw.p.sz, rfl, hp, rfl⟩))
        (sv_seq (sv_asgN (d := .lst ((CT.tree (CT.crowds ps (nearOf ts) p)).map prD)) (en_callX (av_cons (ev_var rfl) av_nil) ⟨grOf ps ts, p, hw.g, rfl, hp, rfl⟩))
        (sv_seq (sv_if (k := false) (TvD.is (tv_or (tv_not (tv_B (ev_cb (av_cons (ev_var rfl) (av_cons ev_ty av_nil)) isi_lstY))) fun _ => tv_or (tv_not (tv_B (ev_call0 (av_cons (ev_var rfl) (av_cons (ev_var rfl) (av_cons (ev_var rfl) av_nil))) ⟨ps, ts, p, _, hw, co, cr, rfl, rfl⟩))) fun _ =>
          tv_test (ev_op (ev_callX (av_cons (ev_var rfl) (av_cons (ev_var rfl) av_nil)) ⟨grOf ps ts, _, hw.g, .inl rfl, jo, rfl⟩) ev_bl rd_notB)) ?_) (fun h => by cases h) fun _ => sv_next)
        (sv_seq (sv_copy rfl) (sv_seq (sv_app rfl ev_non ?_)
        (sv_frz (sv_if (k := false) (tv_test (EvD.is (ev_op (EvN.ev (en_callX (av_cons (ev_var rfl) av_nil) ⟨grOf ps ts, p, hw.g, rfl, hp, rfl⟩)) (ev_var rfl) (rd_neE (k := 2) (x := CT.tree (CT.crowds ps (nearOf ts) p)) (y := CT.tree (CT.crowds ps (nearOf ts) p)) (eqOn_lst eqOn_pr) (fun _ _ => trivial) (fun _ _ => trivial) (eqk_lst fun q _ => eqk_pr q) (eqk_lst fun q _ => eqk_pr q))) ?_)) (fun h => by cases h) fun _ => sv_next)))))))).p rfl) fun o ho => ?_
      · rw [jb]; rfl
      · rw [List.length_map]; omega
      · rw [decide_eq_true rfl]; rfl
      · subst ho
        exact ⟨_, _, .inl rfl, rfl, rfl⟩
  · subst ho
    have w0 : WOk [] [] := wok_nil
    have hp0 : CT.peelingOf (grOf [] []).ps (grOf [] []).n = some [] := rfl
    have mk : ∀ {ρ : Rho}, EvD (ΓS T s cc) (tMake C (spInit C) [] E0 (tCons (tLst tNil) (tCons (tLst tNil) tNil))) ρ (chartD C (grOf [] [])) := fun {ρ} => ev_make (ps := []) (ts := []) (av_cons (ev_lst av_nil) (av_cons (ev_lst av_nil) av_nil)) w0.p w0.t
    refine svp_ret (P := fun d => d = .bl true) (EvD.p (EvD.is (ev_andV (ev_op (EvN.ev (en_callX (av_cons mk av_nil) ⟨grOf [] [], [], w0.g, rfl, hp0, rfl⟩)) (ev_lst av_nil) (rd_isNil (enc := prD) (k := 2) (eqk_lst fun q _ => eqk_pr q))) fun _ => ev_op (ev_callX (av_cons mk (av_cons (ev_tup av_nil) av_nil)) ⟨grOf [] [], [], w0.g, .inr ⟨rfl, rfl⟩, fun _ _ q hq => (nomatch hq), rfl⟩) ev_bl rd_isB) ?_) rfl) fun d hd => by rw [hd]
    rw [tree0, judge0]; rfl
end
end CW
/-! E3 -/
/-! E3: what the top leaves, read by a Hook. -/
namespace CW
open PySem PySem.Spec PyProof.Rows L2 He
abbrev ngD : Defn := ("NotGood", some "__init__")
abbrev ngA (K : PySem.W.Frag) : Addr := ga K "NotGood"
abbrev niS : Stmt := inClass (topS 4) 0
/-- the class of an own exception -/
def oexB (K : PySem.W.Frag) (C : Addr) : Bool := match K.lookup C with
  | some ⟨.type t, _, .cls ⟨_, _, .ref C' :: bm, _, _, true, _, _, _, _, false⟩, ⟨[_, _, _, _, some (.builtin n), _]⟩⟩ => decide (t = "type") && (decide (C' = C) && (decide (n = "ValueError.__new__") && (PySem.HandSPX.refsVE bm && (decide (PySem.W.findIn K (.ref C) "__setattr__" = some (some (.builtin "object.__setattr__"))) && (decide (PySem.W.subIn K (.ref C) (.type "BaseException") = some true) && PySem.W.keepIn K (.ref C))))))
  | _ => false
theorem oexB_ok {K : PySem.W.Frag} {C : Addr} (h : oexB K C = true) : OexC K C := by
  unfold oexB at h
  split at h
  · rename_i t dd nm bs C' bm N q sn sub ab col k0 k1 k2 k3 n k5 e
    obtain ⟨h1, h⟩ := ba h
    obtain ⟨h2, h⟩ := ba h
    obtain ⟨h3, h⟩ := ba h
    obtain ⟨h4, h⟩ := ba h
    obtain ⟨h5, h⟩ := ba h
    obtain ⟨h6, h7⟩ := ba h
    have e1 := of_decide_eq_true h1
    have e2 := of_decide_eq_true h2
    have e3 := of_decide_eq_true h3
    subst e1 e2 e3
    exact ⟨⟨_, _, _, _, _, _, _, _, _, _, _, _, _, _, _, e, h4⟩, of_decide_eq_true h5, of_decide_eq_true h6, (congrArg (Option.map fun x : Obj => x.cls) e), h7⟩
  · cases h
abbrev IniV : Type := Option (Str × Str × Arguments × FuncBody × Scope × Addr × Value × Value × Option Addr × Addr)
def iniW (K : PySem.W.Frag) (p : Defn) : IniV := match K.lookup (fAd K p) with
  | some ⟨_, _, .func fd, _⟩ => some (fd.name, fd.qualname, fd.params, fd.body, fd.scope, fd.globals, fd.defaults, fd.kwdefaults, fd.annotations, fd.builtins)
  | _ => none
def iniVal (q : Str) (st : Stmt) : IniV := some ("__init__", q, defArgs st, .stmts (defBody st), defScope st, mainGlobals, .none, .none, none, builtinsNs)
/-- its closure, its code object -/
def iniB (file : Str) (K : PySem.W.Frag) (C : Addr) (p : Defn) : Bool := match K.lookup (fAd K p) with
  | some ⟨_, _, .func ⟨_, q, _, _, _, _, [(y, cc)], _, _, _, _, _, .ref c, _, _⟩, _⟩ => decide (y = "__class__") && (PySem.W.codeIn K (.ref c) q && ((match K.lookup cc with
      | some ⟨_, _, .cell (some (.ref C')), _⟩ => decide (C' = C)
      | _ => false) && (match K.lookup c with
      | some ⟨_, _, .fields vs, _⟩ => (match (vs[2]? : Option Value) with
        | some (.str f _) => file == f
        | _ => false)
      | _ => false)))
  | _ => false
def clsB (K : PySem.W.Frag) (C : Addr) : Bool := (match PySem.W.clsIn K C with
  | some _ => true
  | none => false) && (decide (PySem.W.mroIn K C (.ref C) = some true) && (decide (PySem.W.nsIn K cStatics "thirdparty.any" = some none) && (decide (PySem.W.ks_superIn K C C "__init__" = some (some (.builtin "ValueError.__init__"))) && decide (PySem.W.subIn K (.ref C) (.type "ValueError") = some true))))
theorem ini_of {P : Program} {K : PySem.W.Frag} {C : Addr} {p : Defn} {q : Str} {st : Stmt} (h1 : iniW K p = iniVal q st) (h2 : iniB P.main.file K C p = true) (h3 : clsB K C = true) (h4 : (P.main.scope.names.lookup ("super" : Str)).isSome = false) : ∃ fd, IniF P K C (fAd K p) st fd := by
  unfold iniB at h2
  split at h2
  · rename_i oc od nm q2 pm bd sc gl y cc dV kV doc pmo an c ct bl osl e
    obtain ⟨e1, h2⟩ := ba h2
    obtain ⟨e2, h2⟩ := ba h2
    obtain ⟨e3, e4⟩ := ba h2
    unfold iniW at h1
    rw [e] at h1
    unfold iniVal at h1
    simp only [Option.some.injEq, Prod.mk.injEq] at h1
    obtain ⟨a1, a2, a3, a4, a5, a6, a7, a8, a9, a10⟩ := h1
    have ey := of_decide_eq_true e1
    subst a1 a2 a3 a4 a5 a6 a7 a8 a9 a10 ey
    obtain ⟨c1, h3⟩ := ba h3
    obtain ⟨c2, h3⟩ := ba h3
    obtain ⟨c3, h3⟩ := ba h3
    obtain ⟨c4, c5⟩ := ba h3
    refine ⟨_, ⟨_, cc, c, oc, od, doc, pmo, ct, osl, rfl, e, e2, ?_, ?_⟩, ?_, of_decide_eq_true c2, of_decide_eq_true c3, of_decide_eq_true c4, of_decide_eq_true c5, h4⟩
    · split at e4
      · rename_i ccl cdd vs ccs lc
        split at e4
        · rename_i f tf hv
          exact ⟨_, _, _, _, f, tf, lc, hv, e4⟩
        · cases e4
      · cases e4
    · split at e3
      · rename_i cl cld C' csl lcc
        have ec := of_decide_eq_true e3
        subst ec
        exact ⟨_, _, _, lcc⟩
      · cases e3
    · split at c1
      · exact ⟨_, by assumption⟩
      · cases c1
  · cases h2
end CW
/-! E4 -/
/-! E4: the head run. -/
namespace CW
open PySem PySem.Spec PyProof.Rows L2 He
def dTop (x : Str) (i : Nat) : DefD := ⟨(x, none), x, x, defArgs (topS i), defBody (topS i), defScope (topS i), [], []⟩
def dMap (m q : Str) (j : Nat) : DefD := ⟨("Map", some m), m, q, defArgs (mapS j), defBody (mapS j), defScope (mapS j), [], []⟩
def fn0 : List DefD := [dTop "are_near" 7, dTop "left_near" 8, dTop "free_posts" 9, dTop "peeled" 10, dTop "peeling_of" 11, dTop "good" 12, dTop "later_near" 13, dTop "are_posts" 15, dTop "way_between" 16, dTop "ring_at" 17, dTop "long_ring_of" 18, dTop "is_number" 22, dTop "is_word" 23, dTop "is_list" 24, dTop "is_row" 25, dTop "is_among" 26, dTop "wrong_post" 28, dTop "wrong_tie" 29, dTop "ordered" 32, dTop "is_crowd" 33]
def fn1 : List DefD := [dTop "need_good" 34, dTop "crowds_of" 35, dTop "common_many" 37, dTop "all_pairs" 38, dTop "tied_lots" 39, dTop "crowd_tree_of" 40, dTop "are_pairs" 41, dTop "judge_crowd_tree" 42, dTop "_law_source" 44, dTop "_law_pick" 45, dTop "_law_of" 46, dTop "_law_mixed" 47, dTop "_law_names" 48, dTop "_law_good_ties" 49, dTop "_law_any_ties" 50, dTop "_law_turned_ties" 51, dTop "_law_map" 52, dTop "_law_any_map" 53, dTop "_law_made" 54, dTop "_law_ring_map" 55]
def fn2 : List DefD := [dTop "_law_is_near" 56, dTop "_law_is_crowd" 57, dTop "_law_peeled" 58, dTop "_law_some_map" 59, dTop "_law_is_ring" 60, dTop "_law_cross" 61, dTop "_law_is_long" 62, dTop "_law_refused" 63, dTop "_law_crowds" 64, dTop "_law_is_tree" 65, dTop "_law_quick" 66, dTop "law" 67, dMap "__init__" "Map.__init__" 0, dMap "check" "Map.check" 2, dMap "posts" "Map.posts" 3, dMap "is_near" "Map.is_near" 6, dMap "near" "Map.near" 7, dMap "tied" "Map.tied" 8]
def fnS : List DefD := fn0 ++ (fn1 ++ (fn2))
def fa0 : List Fa := [.glo "are_near", .glo "left_near", .glo "free_posts", .glo "peeled", .glo "peeling_of", .glo "good", .glo "later_near", .glo "are_posts", .glo "way_between", .glo "ring_at", .glo "long_ring_of", .glo "is_number", .glo "is_word", .glo "is_list", .glo "is_row", .glo "is_among", .glo "wrong_post", .glo "wrong_tie", .glo "ordered", .glo "is_crowd", .glo "need_good", .glo "crowds_of", .glo "common_many", .glo "all_pairs", .glo "tied_lots"]
def fa1 : List Fa := [.glo "crowd_tree_of", .glo "are_pairs", .glo "judge_crowd_tree", .glo "_law_source", .glo "_law_pick", .glo "_law_of", .glo "_law_mixed", .glo "_law_names", .glo "_law_good_ties", .glo "_law_any_ties", .glo "_law_turned_ties", .glo "_law_map", .glo "_law_any_map", .glo "_law_made", .glo "_law_ring_map", .glo "_law_is_near", .glo "_law_is_crowd", .glo "_law_peeled", .glo "_law_some_map", .glo "_law_is_ring", .glo "_law_cross", .glo "_law_is_long", .glo "_law_refused", .glo "_law_crowds", .glo "_law_is_tree"]
def fa2 : List Fa := [.glo "_law_quick", .glo "law", .glo "Map", .glo "NotGood", .str "LETTERS" lettersS, .str "FIGURES" figuresS, .cls "Map", .noat "Map" "own_posts", .noat "Map" "own_numbers", .noat "Map" "own_near", .mkr "Map", .exm "NotGood" "NotGood" true, .noat "NotGood" "ring", .meth "Map" "check", .meth "Map" "posts", .meth "Map" "is_near", .meth "Map" "near", .meth "Map" "tied", .free "all", .free "any", .free "len", .free "range", .free "list", .free "tuple", .free "sorted"]
def fa3 : List Fa := [.free "enumerate", .free "isinstance", .free "str", .free "int", .free "bool", .free "sum", .free "zip", .free "set", .free "max", .free "abs", .free "super"]
def faS : List Fa := fa0 ++ (fa1 ++ (fa2 ++ (fa3)))
def nm0 : List PySem.Str := ["__name__", "TieError", "NameMissing", "BadMap", "NotGood", "UnknownName", "are_near", "left_near", "free_posts", "peeled", "peeling_of", "good", "later_near", "are_posts", "way_between"]
def nm1 : List PySem.Str := ["ring_at", "long_ring_of", "LETTERS", "FIGURES", "is_number", "is_word", "is_list", "is_row", "is_among", "wrong_post", "wrong_tie", "Map", "ordered", "is_crowd", "need_good"]
def nm2 : List PySem.Str := ["crowds_of", "common_many", "all_pairs", "tied_lots", "crowd_tree_of", "are_pairs", "judge_crowd_tree", "_law_source", "_law_pick", "_law_of", "_law_mixed", "_law_names", "_law_good_ties", "_law_any_ties", "_law_turned_ties"]
def nm3 : List PySem.Str := ["_law_map", "_law_any_map", "_law_made", "_law_ring_map", "_law_is_near", "_law_is_crowd", "_law_peeled", "_law_some_map", "_law_is_ring", "_law_cross", "_law_is_long", "_law_refused", "_law_crowds", "_law_is_tree", "_law_quick"]
def nmS : List PySem.Str := nm0 ++ (nm1 ++ (nm2 ++ (nm3)))
def tfS : List Defn := [("crowds_of", none), ("all_pairs", none), ("law", none)]
abbrev rowR : PySem.W.OpenRow := PySem.W.OpenLaw.row PySem.Challenge.rw_crossties_k17_whole_crowd_trees_told
abbrev prR : Program := (PySem.Challenge.rw_crossties_k17_whole_crowd_trees_told).prog
def farT (K : PySem.W.Frag) (p q : Defn) : Bool := !decide ((cT K p).2 = (cT K q).2)
def exS (K : PySem.W.Frag) : Bool := oexB K (ngA K) && (xfB K (ngA K) && (iniB prR.main.file K (ngA K) ngD && (clsB K (ngA K) && (farT K ("crowds_of", none) ("all_pairs", none) && (farT K ("crowds_of", none) ("law", none) && (farT K ("all_pairs", none) ("law", none) && (decide (PySem.W.findIn K (.ref (ngA K)) "__init__" = some (some (.ref (fAd K ngD)))) && decide (PySem.W.typeIn K (.ref (fAd K ngD)) = some (.type "function")))))))))
/-- what an object leads to: a namespace's values, a def's code and cells, a class's namespace -/
def refsZ (o : Obj) : List Addr := match o.data with
  | .dict es _ => es.toList.flatMap fun e => refV e.val
  | .func fd => refV fd.code ++ fd.closure.map (·.2)
  | .cls cd => [cd.ns]
  | _ => []
def lvZ (g : Addr → Option Obj) : Nat → List Addr
  | 0 => [mainGlobals]
  | n + 1 => (lvZ g n).flatMap fun a => match g a with
    | some o => refsZ o
    | none => []
def kOf (g : Addr → Option Obj) : PySem.W.Frag := frT g (cStatics :: (lvZ g 0 ++ (lvZ g 1 ++ (lvZ g 2 ++ (lvZ g 3 ++ lvZ g 4)))))
abbrev AlY : Type := AlX × IniV
def obsK (g : Addr → Option Obj) (K : PySem.W.Frag) : AlY := ((obsT faS fnS [] K, exS K && tabsB g tfS K), iniW K ngD)
def obsY (g : Addr → Option Obj) : AlY := obsK g (kOf g)
def valY (w : World) : AlY := (valX fnS [] w, iniVal "NotGood.__init__" niS)
structure SaysZ (w : World) (h : Heap) (K : PySem.W.Frag) : Prop where
  x : SaysX faS fnS [] tfS exS w h K
  i : iniW K ngD = iniVal "NotGood.__init__" niS
theorem saysZ {w : World} {h : Heap} {K : PySem.W.Frag} (hK : ∀ a o, h.get? a = some o → emptyTab o = true → K.lookup a = none) (e : obsK h.get? K = valY w) : SaysZ w h K := by
  have q1 : (obsT faS fnS [] K, exS K && tabsB h.get? tfS K) = valX fnS [] w := congrArg Prod.fst e
  have q2 : (exS K && tabsB h.get? tfS K) = true := congrArg Prod.snd q1
  have at_ : ∀ p ∈ tfS, PySem.W.codeHdIn K (cT K p).1 (cT K p).2 = true ∧ ∃ o, h.get? (cT K p).2 = some o ∧ emptyTab o = true := fun p hp => by
    obtain ⟨z1, z2⟩ := ba (List.all_eq_true.mp (ba q2).2 p hp)
    refine ⟨z1, ?_⟩
    split at z2
    · exact ⟨_, by assumption, z2⟩
    · cases z2
  refine ⟨⟨congrArg Prod.fst q1, (ba q2).1, fun p hp => (at_ p hp).1, fun p hp => ?_, fun p hp => ?_⟩, congrArg Prod.snd e⟩
  · obtain ⟨_, o, z1, z2⟩ := at_ p hp
    exact hK _ o z1 z2
  · obtain ⟨_, o, z1, z2⟩ := at_ p hp
    rw [z1, emptyTab_eq z2]
abbrev hookY : PySem.W.Hook where
  α := AlY
  obs := fun s => obsY s.heap.get?
  val := valY
  says := fun w h => ∃ K : PySem.W.Frag, K.In h ∧ SaysZ w h K
  of := fun w s e => ⟨kOf s.heap.get?, frT_in, saysZ (fun a o z t => frT_none z t) e⟩
  keeps := fun w h h2 ⟨K, k1, z⟩ k => ⟨K, PySem.W.Frag.In.keeps k1 k, ⟨⟨z.x.t, z.x.more, z.x.hd, z.x.out, fun p hp => k _ _ (z.x.empty p hp)⟩, z.i⟩⟩
def obY (s : PySem.W.SharedT) : AlY := obsY (HandSHeadRun.getT s)
theorem obY_eq (s : PySem.W.SharedT) : obY s = hookY.obs s.abs := by
  unfold obY
  rw [show HandSHeadRun.getT s = s.abs.heap.get? from funext fun a => HandSHeadRun.getT_eq s a]
end CW
/-! E5 -/
/-! E5: the head run. -/
namespace CW
open PySem PySem.Spec PyProof.Rows L2 He
theorem runY (w : World) : HandSHeadRun.RunEq rowR (PySem.W.view rowR.prog [67]) hookY obY 6000 nmS w := by
  intro os
  kernel_rfl
end CW
/-! E6 -/
/-! E6: the law at what the top leaves. -/
namespace CW
open PySem PySem.Spec PyProof.Rows L2 He LamX NdefX
section
variable {K : PySem.W.Frag} {fd : FuncData} {x q : Str} {j : Nat}
theorem getTop (d : SaysD faS fnS K) (i : Nat) (x : Str) (j : Nat) (h : fnS[i]? = some (dTop x j)) : ∃ fd, FnP K x x (topS j) (ga K x) fd := d.def_ i h
theorem getMap (d : SaysD faS fnS K) (i : Nat) (m q : Str) (j : Nat) (h : fnS[i]? = some (dMap m q j)) : ∃ fd, FnP K m q (mapS j) (ma K (ga K "Map") m) fd := d.def_ i h
theorem code_of (F : FnP K x x (topS j) (ga K x) fd) : fd.code = .ref (cT K (x, none)).1 := by
  obtain ⟨oc, od, dV, kV, doc, pm, an, cdv, ct, osl, e, lk, hcd, _, _⟩ := F.ex
  obtain ⟨c, ec⟩ := codeIn_ref hcd
  subst ec
  subst e
  exact congrArg Value.ref (codeOf_eq (p := (x, none)) lk rfl).symm
theorem uniq3 {a b c : Addr} {x y z : Str} (ab : a ≠ b) (ac : a ≠ c) (bc : b ≠ c) : (∀ p ∈ [(a, x), (b, y), (c, z)], p.1 = a → p.2 = x) ∧ (∀ p ∈ [(a, x), (b, y), (c, z)], p.1 = b → p.2 = y) ∧ ∀ p ∈ [(a, x), (b, y), (c, z)], p.1 = c → p.2 = z := by
  refine ⟨fun p hp e => ?_, fun p hp e => ?_, fun p hp e => ?_⟩
  all_goals
    rcases List.mem_cons.mp hp with rfl | hp
    · first | rfl | exact absurd e ab | exact absurd e ac | exact absurd e.symm ab
    rcases List.mem_cons.mp hp with rfl | hp
    · first | rfl | exact absurd e.symm ab | exact absurd e bc
    rw [List.mem_singleton] at hp
    subst hp
    first | rfl | exact absurd e.symm ac | exact absurd e.symm bc
theorem farT_ok {a b : Defn} (h : farT K a b = true) : (cT K a).2 ≠ (cT K b).2 := fun e => by
  unfold farT at h
  rw [decide_eq_true e] at h
  cases h
end
abbrev Tof (K : PySem.W.Frag) : List (Addr × Str) := [((cT K ("crowds_of", none)).2, qCrowds), ((cT K ("all_pairs", none)).2, qPairs), ((cT K ("law", none)).2, qLaw)]
theorem lawAt {w : World} {h : Heap} {K : PySem.W.Frag} {mg : Str → Option Value} {f0 : Addr} (X : K.In h) (G : h.Ns mainGlobals mg) (hf : mg "law" = some (.ref f0)) (z : SaysZ w h K) : LawAtS PySem.Challenge.rw_crossties_k17_whole_crowd_trees_told w K L2.CX0 15 63 "_law_script" mg f0 h := by
  have d : SaysD faS fnS K := z.x.t.d
  obtain ⟨fd_law, F_law⟩ := getTop d 51 "law" 67 rfl
  have m_law : mg "law" = some (.ref (ga K "law")) := glo_ok X G (d.fact 51 (f := .glo "law") rfl)
  have e0 := hf.symm.trans m_law
  cases e0
  have ex := z.x.more
  obtain ⟨x1, ex⟩ := ba ex
  obtain ⟨x2, ex⟩ := ba ex
  obtain ⟨x3, ex⟩ := ba ex
  obtain ⟨x4, ex⟩ := ba ex
  obtain ⟨x5, ex⟩ := ba ex
  obtain ⟨x6, ex⟩ := ba ex
  obtain ⟨x7, ex⟩ := ba ex
  obtain ⟨x8, x9⟩ := ba ex
  have i1 : (("crowds_of", none) : Defn) ∈ tfS := List.mem_cons_self
  have i2 : (("all_pairs", none) : Defn) ∈ tfS := List.mem_cons_of_mem _ List.mem_cons_self
  have i3 : (("law", none) : Defn) ∈ tfS := List.mem_cons_of_mem _ (List.mem_cons_of_mem _ List.mem_cons_self)
  refine ⟨fd_law, tfS.map (cT K), spLaw K (Tof K), fun p hp => ?_, fun p hp => ?_, fun p hp => ?_, fun s u => F_law.bindsA (ps := ["_law_script"]) (fun _ _ _ _ _ _ us hl => match us, hl with | [_], _ => rfl) s [u] rfl, fun H a ns hl _ hH hS => ⟨a, ns, rfl, hS, by omega, fun p hp => ?_, fun _ => rfl⟩, fun base hb hn hTB => ?_⟩
  · obtain ⟨y, hy, rfl⟩ := List.mem_map.mp hp
    exact z.x.empty y hy
  · obtain ⟨y, hy, rfl⟩ := List.mem_map.mp hp
    exact z.x.out y hy
  · obtain ⟨y, hy, rfl⟩ := List.mem_map.mp hp
    exact PySem.W.codeHd_of_K X (z.x.hd y hy)
  · rcases List.mem_cons.mp hp with rfl | hp
    · exact .nil (hH _ (List.mem_map.mpr ⟨_, i1, rfl⟩))
    rcases List.mem_cons.mp hp with rfl | hp
    · exact .nil (hH _ (List.mem_map.mpr ⟨_, i2, rfl⟩))
    rw [List.mem_singleton] at hp
    subst hp
    exact .nil (hH _ (List.mem_map.mpr ⟨_, i3, rfl⟩))
  obtain ⟨T, hT⟩ : ∃ T, T = Tof K := ⟨_, rfl⟩
  have T_crowds_of : ((cT K ("crowds_of", none)).2, qCrowds) ∈ T := by rw [hT]; exact List.mem_cons_self
  have T_all_pairs : ((cT K ("all_pairs", none)).2, qPairs) ∈ T := by rw [hT]; exact List.mem_cons_of_mem _ List.mem_cons_self
  have T_law : ((cT K ("law", none)).2, qLaw) ∈ T := by rw [hT]; exact List.mem_cons_of_mem _ (List.mem_cons_of_mem _ List.mem_cons_self)
  obtain ⟨U1, U2, U3⟩ := uniq3 (x := qCrowds) (y := qPairs) (z := qLaw) (farT_ok x5) (farT_ok x6) (farT_ok x7)
  have U_crowds_of : ∀ p ∈ T, p.1 = (cT K ("crowds_of", none)).2 → p.2 = qCrowds := by rw [hT]; exact U1
  have U_all_pairs : ∀ p ∈ T, p.1 = (cT K ("all_pairs", none)).2 → p.2 = qPairs := by rw [hT]; exact U2
  have U_law : ∀ p ∈ T, p.1 = (cT K ("law", none)).2 → p.2 = qLaw := by rw [hT]; exact U3
  have B_crowds_of : TabB base mg (cT K ("crowds_of", none)).1 (cT K ("crowds_of", none)).2 := hTB _ (List.mem_map.mpr ⟨_, i1, rfl⟩)
  have B_all_pairs : TabB base mg (cT K ("all_pairs", none)).1 (cT K ("all_pairs", none)).2 := hTB _ (List.mem_map.mpr ⟨_, i2, rfl⟩)
  have B_law : TabB base mg (cT K ("law", none)).1 (cT K ("law", none)).2 := hTB _ (List.mem_map.mpr ⟨_, i3, rfl⟩)
  rw [← hT]
  clear hT U1 U2 U3
  have m_Map : mg "Map" = some (.ref (ga K "Map")) := glo_ok X G (d.fact 52 (f := .glo "Map") rfl)
  have m_NG : mg "NotGood" = some (.ref (ga K "NotGood")) := glo_ok X G (d.fact 53 (f := .glo "NotGood") rfl)
  have tk : Kx K mg (ga K "Map") := ⟨⟨free_ok X G (d.fact 68 (f := .free "all") rfl), free_ok X G (d.fact 69 (f := .free "any") rfl), free_ok X G (d.fact 70 (f := .free "len") rfl), free_ok X G (d.fact 71 (f := .free "range") rfl), free_ok X G (d.fact 72 (f := .free "list") rfl), free_ok X G (d.fact 73 (f := .free "tuple") rfl), free_ok X G (d.fact 74 (f := .free "sorted") rfl), free_ok X G (d.fact 75 (f := .free "enumerate") rfl), free_ok X G (d.fact 76 (f := .free "isinstance") rfl), free_ok X G (d.fact 77 (f := .free "str") rfl), free_ok X G (d.fact 78 (f := .free "int") rfl), free_ok X G (d.fact 79 (f := .free "bool") rfl), free_ok X G (d.fact 80 (f := .free "sum") rfl), free_ok X G (d.fact 81 (f := .free "zip") rfl), free_ok X G (d.fact 82 (f := .free "set") rfl), free_ok X G (d.fact 83 (f := .free "max") rfl), free_ok X G (d.fact 84 (f := .free "abs") rfl), free_ok X G (d.fact 85 (f := .free "super") rfl)⟩, str_ok X G (d.fact 54 (f := .str "LETTERS" lettersS) rfl), str_ok X G (d.fact 55 (f := .str "FIGURES" figuresS) rfl), cls_ok (d.fact 56 (f := .cls "Map") rfl), noat_ok (d.fact 57 (f := .noat "Map" "own_posts") rfl), noat_ok (d.fact 58 (f := .noat "Map" "own_numbers") rfl), noat_ok (d.fact 59 (f := .noat "Map" "own_near") rfl)⟩
  obtain ⟨fd_is_word, F_is_word⟩ := getTop d 12 "is_word" 23 rfl
  have m_is_word : mg "is_word" = some (.ref (ga K "is_word")) := glo_ok X G (d.fact 12 (f := .glo "is_word") rfl)
  have G_is_word : Has prR w K mg base "is_word" ["value"] 1 (spF G0 rIsWord) := Has.of F_is_word m_is_word (ok_is_word tk F_is_word) fun _ _ _ _ _ _ us hl => match us, hl with | [_], _ => rfl
  obtain ⟨fd_is_list, F_is_list⟩ := getTop d 13 "is_list" 24 rfl
  have m_is_list : mg "is_list" = some (.ref (ga K "is_list")) := glo_ok X G (d.fact 13 (f := .glo "is_list") rfl)
  have G_is_list : Has prR w K mg base "is_list" ["value"] 1 (spF G0 rIsList) := Has.of F_is_list m_is_list (ok_is_list tk F_is_list) fun _ _ _ _ _ _ us hl => match us, hl with | [_], _ => rfl
  obtain ⟨fd_is_row, F_is_row⟩ := getTop d 14 "is_row" 25 rfl
  have m_is_row : mg "is_row" = some (.ref (ga K "is_row")) := glo_ok X G (d.fact 14 (f := .glo "is_row") rfl)
  have G_is_row : Has prR w K mg base "is_row" ["value", "many"] 1 (spF G0 rIsRow) := Has.of F_is_row m_is_row (ok_is_row tk F_is_row) fun _ _ _ _ _ _ us hl => match us, hl with | [_, _], _ => rfl
  obtain ⟨fd_is_among, F_is_among⟩ := getTop d 15 "is_among" 26 rfl
  have m_is_among : mg "is_among" = some (.ref (ga K "is_among")) := glo_ok X G (d.fact 15 (f := .glo "is_among") rfl)
  have G_is_among : Has prR w K mg base "is_among" ["value", "words"] 2 (spF G0 rIsAmong) := Has.of F_is_among m_is_among (ok_is_among tk F_is_among G_is_word) fun _ _ _ _ _ _ us hl => match us, hl with | [_, _], _ => rfl
  obtain ⟨fd_wrong_post, F_wrong_post⟩ := getTop d 16 "wrong_post" 28 rfl
  have m_wrong_post : mg "wrong_post" = some (.ref (ga K "wrong_post")) := glo_ok X G (d.fact 16 (f := .glo "wrong_post") rfl)
  have G_wrong_post : Has prR w K mg base "wrong_post" ["posts"] 2 (spF G0 rWrongPost) := Has.of F_wrong_post m_wrong_post (ok_wrong_post tk F_wrong_post G_is_word G_is_list) fun _ _ _ _ _ _ us hl => match us, hl with | [_], _ => rfl
  obtain ⟨fdM_check, FM_check⟩ := getMap d 53 "check" "Map.check" 2 rfl
  have M_check : HasM prR w K mg base (ga K "Map") "check" ["self", "values"] 3 (spF G0 (rCheck (ga K "Map"))) := ⟨_, _, ok_m_check tk FM_check G_is_among, meth_ok (d.fact 63 (f := .meth "Map" "check") rfl), FM_check.bindsN fun _ _ _ _ _ _ us hl => match us, hl with | [_, _], _ => rfl⟩
  obtain ⟨fdM_posts, FM_posts⟩ := getMap d 54 "posts" "Map.posts" 3 rfl
  have M_posts : HasM prR w K mg base (ga K "Map") "posts" ["self"] 1 (spN G0 (rPosts (ga K "Map"))) := ⟨_, _, ok_m_posts tk FM_posts, meth_ok (d.fact 64 (f := .meth "Map" "posts") rfl), FM_posts.bindsN fun _ _ _ _ _ _ us hl => match us, hl with | [_], _ => rfl⟩
  obtain ⟨fdM_is_near, FM_is_near⟩ := getMap d 55 "is_near" "Map.is_near" 6 rfl
  have M_is_near : HasM prR w K mg base (ga K "Map") "is_near" ["self", "x", "y"] 4 (spF G0 (rIsNear (ga K "Map"))) := ⟨_, _, ok_m_is_near tk FM_is_near M_check, meth_ok (d.fact 65 (f := .meth "Map" "is_near") rfl), FM_is_near.bindsN fun _ _ _ _ _ _ us hl => match us, hl with | [_, _, _], _ => rfl⟩
  obtain ⟨fdM_near, FM_near⟩ := getMap d 56 "near" "Map.near" 7 rfl
  have M_near : HasM prR w K mg base (ga K "Map") "near" ["self", "x"] 4 (spN G0 (rNear (ga K "Map"))) := ⟨_, _, ok_m_near tk FM_near M_check, meth_ok (d.fact 66 (f := .meth "Map" "near") rfl), FM_near.bindsN fun _ _ _ _ _ _ us hl => match us, hl with | [_, _], _ => rfl⟩
  obtain ⟨fdM_tied, FM_tied⟩ := getMap d 57 "tied" "Map.tied" 8 rfl
  have M_tied : HasM prR w K mg base (ga K "Map") "tied" ["self", "x"] 5 (spN G0 (rTied (ga K "Map"))) := ⟨_, _, ok_m_tied tk FM_tied M_near, meth_ok (d.fact 67 (f := .meth "Map" "tied") rfl), FM_tied.bindsN fun _ _ _ _ _ _ us hl => match us, hl with | [_, _], _ => rfl⟩
  obtain ⟨fd_are_near, F_are_near⟩ := getTop d 0 "are_near" 7 rfl
  have m_are_near : mg "are_near" = some (.ref (ga K "are_near")) := glo_ok X G (d.fact 0 (f := .glo "are_near") rfl)
  have G_are_near : Has prR w K mg base "are_near" ["chart", "posts"] 5 (spF G0 (rAreNear (ga K "Map"))) := Has.of F_are_near m_are_near (ok_are_near tk F_are_near M_is_near) fun _ _ _ _ _ _ us hl => match us, hl with | [_, _], _ => rfl
  obtain ⟨fd_left_near, F_left_near⟩ := getTop d 1 "left_near" 8 rfl
  have m_left_near : mg "left_near" = some (.ref (ga K "left_near")) := glo_ok X G (d.fact 1 (f := .glo "left_near") rfl)
  have G_left_near : Has prR w K mg base "left_near" ["chart", "post", "left"] 6 (spN G0 (rLeftNear (ga K "Map"))) := Has.of F_left_near m_left_near (ok_left_near tk F_left_near M_tied) fun _ _ _ _ _ _ us hl => match us, hl with | [_, _, _], _ => rfl
  obtain ⟨fd_free_posts, F_free_posts⟩ := getTop d 2 "free_posts" 9 rfl
  have m_free_posts : mg "free_posts" = some (.ref (ga K "free_posts")) := glo_ok X G (d.fact 2 (f := .glo "free_posts") rfl)
  have G_free_posts : Has prR w K mg base "free_posts" ["chart", "left"] 7 (spN G0 (rFree (ga K "Map"))) := Has.of F_free_posts m_free_posts (ok_free_posts tk F_free_posts G_are_near G_left_near) fun _ _ _ _ _ _ us hl => match us, hl with | [_, _], _ => rfl
  obtain ⟨fd_peeled, F_peeled⟩ := getTop d 3 "peeled" 10 rfl
  have m_peeled : mg "peeled" = some (.ref (ga K "peeled")) := glo_ok X G (d.fact 3 (f := .glo "peeled") rfl)
  have G_peeled : Has prR w K mg base "peeled" ["chart"] 8 (spF G0 (rPeeled (ga K "Map"))) := Has.of F_peeled m_peeled (ok_peeled tk F_peeled M_posts G_free_posts) fun _ _ _ _ _ _ us hl => match us, hl with | [_], _ => rfl
  obtain ⟨fd_peeling_of, F_peeling_of⟩ := getTop d 4 "peeling_of" 11 rfl
  have m_peeling_of : mg "peeling_of" = some (.ref (ga K "peeling_of")) := glo_ok X G (d.fact 4 (f := .glo "peeling_of") rfl)
  have G_peeling_of : Has prR w K mg base "peeling_of" ["chart"] 9 (spF G0 (rPeelingOf (ga K "Map"))) := Has.of F_peeling_of m_peeling_of (ok_peeling_of tk F_peeling_of G_peeled) fun _ _ _ _ _ _ us hl => match us, hl with | [_], _ => rfl
  obtain ⟨fd_good, F_good⟩ := getTop d 5 "good" 12 rfl
  have m_good : mg "good" = some (.ref (ga K "good")) := glo_ok X G (d.fact 5 (f := .glo "good") rfl)
  have G_good : Has prR w K mg base "good" ["chart"] 10 (spF G0 (rGood (ga K "Map"))) := Has.of F_good m_good (ok_good tk F_good G_peeling_of) fun _ _ _ _ _ _ us hl => match us, hl with | [_], _ => rfl
  obtain ⟨fd_later_near, F_later_near⟩ := getTop d 6 "later_near" 13 rfl
  have m_later_near : mg "later_near" = some (.ref (ga K "later_near")) := glo_ok X G (d.fact 6 (f := .glo "later_near") rfl)
  have G_later_near : Has prR w K mg base "later_near" ["chart", "peeling"] 7 (spF G0 (rLater (ga K "Map"))) := Has.of F_later_near m_later_near (ok_later_near tk F_later_near G_left_near) fun _ _ _ _ _ _ us hl => match us, hl with | [_, _], _ => rfl
  obtain ⟨fd_are_posts, F_are_posts⟩ := getTop d 7 "are_posts" 15 rfl
  have m_are_posts : mg "are_posts" = some (.ref (ga K "are_posts")) := glo_ok X G (d.fact 7 (f := .glo "are_posts") rfl)
  have G_are_posts : Has prR w K mg base "are_posts" ["chart", "value"] 2 (spF G0 (rArePosts (ga K "Map"))) := Has.of F_are_posts m_are_posts (ok_are_posts tk F_are_posts M_posts) fun _ _ _ _ _ _ us hl => match us, hl with | [_, _], _ => rfl
  obtain ⟨fd_way_between, F_way_between⟩ := getTop d 8 "way_between" 16 rfl
  have m_way_between : mg "way_between" = some (.ref (ga K "way_between")) := glo_ok X G (d.fact 8 (f := .glo "way_between") rfl)
  have G_way_between : Has prR w K mg base "way_between" ["chart", "left", "begin", "end"] 7 (spF G0 (rWay (ga K "Map"))) := Has.of F_way_between m_way_between (ok_way_between tk F_way_between G_left_near) fun _ _ _ _ _ _ us hl => match us, hl with | [_, _, _, _], _ => rfl
  obtain ⟨fd_ring_at, F_ring_at⟩ := getTop d 9 "ring_at" 17 rfl
  have m_ring_at : mg "ring_at" = some (.ref (ga K "ring_at")) := glo_ok X G (d.fact 9 (f := .glo "ring_at") rfl)
  have G_ring_at : Has prR w K mg base "ring_at" ["chart", "left", "post"] 8 (spF G0 (rRingAt (ga K "Map"))) := Has.of F_ring_at m_ring_at (ok_ring_at tk F_ring_at G_left_near G_way_between M_is_near) fun _ _ _ _ _ _ us hl => match us, hl with | [_, _, _], _ => rfl
  obtain ⟨fd_long_ring_of, F_long_ring_of⟩ := getTop d 10 "long_ring_of" 18 rfl
  have m_long_ring_of : mg "long_ring_of" = some (.ref (ga K "long_ring_of")) := glo_ok X G (d.fact 10 (f := .glo "long_ring_of") rfl)
  have G_long_ring_of : Has prR w K mg base "long_ring_of" ["chart"] 9 (spF G0 (rLongRing (ga K "Map"))) := Has.of F_long_ring_of m_long_ring_of (ok_long_ring_of tk F_long_ring_of G_peeled G_ring_at) fun _ _ _ _ _ _ us hl => match us, hl with | [_], _ => rfl
  obtain ⟨fd_ordered, F_ordered⟩ := getTop d 18 "ordered" 32 rfl
  have m_ordered : mg "ordered" = some (.ref (ga K "ordered")) := glo_ok X G (d.fact 18 (f := .glo "ordered") rfl)
  have G_ordered : Has prR w K mg base "ordered" ["chart", "posts"] 2 (spF G0 (rOrdered (ga K "Map"))) := Has.of F_ordered m_ordered (ok_ordered tk F_ordered M_posts) fun _ _ _ _ _ _ us hl => match us, hl with | [_, _], _ => rfl
  obtain ⟨fd_is_crowd, F_is_crowd⟩ := getTop d 19 "is_crowd" 33 rfl
  have m_is_crowd : mg "is_crowd" = some (.ref (ga K "is_crowd")) := glo_ok X G (d.fact 19 (f := .glo "is_crowd") rfl)
  have G_is_crowd : Has prR w K mg base "is_crowd" ["chart", "value"] 6 (spF G0 (rIsCrowd (ga K "Map"))) := Has.of F_is_crowd m_is_crowd (ok_is_crowd tk F_is_crowd G_are_posts G_ordered G_are_near M_posts M_is_near) fun _ _ _ _ _ _ us hl => match us, hl with | [_, _], _ => rfl
  obtain ⟨fd_need_good, F_need_good⟩ := getTop d 20 "need_good" 34 rfl
  have m_need_good : mg "need_good" = some (.ref (ga K "need_good")) := glo_ok X G (d.fact 20 (f := .glo "need_good") rfl)
  have G_need_good : Has prR w K mg base "need_good" ["chart"] 10 (spF G0 (rNeedGood (ga K "Map"))) := Has.of F_need_good m_need_good (ok_need_good tk F_need_good G_peeling_of) fun _ _ _ _ _ _ us hl => match us, hl with | [_], _ => rfl
  obtain ⟨fd_common_many, F_common_many⟩ := getTop d 22 "common_many" 37 rfl
  have m_common_many : mg "common_many" = some (.ref (ga K "common_many")) := glo_ok X G (d.fact 22 (f := .glo "common_many") rfl)
  have G_common_many : Has prR w K mg base "common_many" ["crowds", "pair"] 1 (spF G0 rCommon) := Has.of F_common_many m_common_many (ok_common_many tk F_common_many) fun _ _ _ _ _ _ us hl => match us, hl with | [_, _], _ => rfl
  obtain ⟨fd_tied_lots, F_tied_lots⟩ := getTop d 24 "tied_lots" 39 rfl
  have m_tied_lots : mg "tied_lots" = some (.ref (ga K "tied_lots")) := glo_ok X G (d.fact 24 (f := .glo "tied_lots") rfl)
  have G_tied_lots : Has prR w K mg base "tied_lots" ["lots", "pair"] 1 (spF G0 rTiedLots) := Has.of F_tied_lots m_tied_lots (ok_tied_lots tk F_tied_lots) fun _ _ _ _ _ _ us hl => match us, hl with | [_, _], _ => rfl
  obtain ⟨fd_is_number, F_is_number⟩ := getTop d 11 "is_number" 22 rfl
  have m_is_number : mg "is_number" = some (.ref (ga K "is_number")) := glo_ok X G (d.fact 11 (f := .glo "is_number") rfl)
  have G_is_number : Has prR w K mg base "is_number" ["value"] 1 (spF G0 rIsNumber) := Has.of F_is_number m_is_number (ok_is_number tk F_is_number) fun _ _ _ _ _ _ us hl => match us, hl with | [_], _ => rfl
  obtain ⟨fd_are_pairs, F_are_pairs⟩ := getTop d 26 "are_pairs" 41 rfl
  have m_are_pairs : mg "are_pairs" = some (.ref (ga K "are_pairs")) := glo_ok X G (d.fact 26 (f := .glo "are_pairs") rfl)
  have G_are_pairs : Has prR w K mg base "are_pairs" ["value", "many"] 2 (spF G0 rArePairs) := Has.of F_are_pairs m_are_pairs (ok_are_pairs tk F_are_pairs G_is_number) fun _ _ _ _ _ _ us hl => match us, hl with | [_, _], _ => rfl
  obtain ⟨fd_crowds_of, F_crowds_of⟩ := getTop d 21 "crowds_of" 35 rfl
  have m_crowds_of : mg "crowds_of" = some (.ref (ga K "crowds_of")) := glo_ok X G (d.fact 21 (f := .glo "crowds_of") rfl)
  have K_crowds_of : ∀ s c, FnOk prR w K mg base CX0 11 (ga K "crowds_of") fd_crowds_of ["chart"] (spN (ΓS T s c) (rCrowds (ga K "Map"))) := fun s c => ok_crowds_of tk F_crowds_of (code_of F_crowds_of) B_crowds_of T_crowds_of U_crowds_of (lamOkS T_crowds_of) G_need_good M_posts G_ordered G_later_near G_peeling_of G_is_crowd
  have G_crowds_of : ∀ s c, Has prR w K mg base "crowds_of" ["chart"] 11 (spN (ΓS T s c) (rCrowds (ga K "Map"))) := fun s c => Has.of F_crowds_of m_crowds_of (K_crowds_of s c) fun _ _ _ _ _ _ us hl => match us, hl with | [_], _ => rfl
  obtain ⟨fd_all_pairs, F_all_pairs⟩ := getTop d 23 "all_pairs" 38 rfl
  have m_all_pairs : mg "all_pairs" = some (.ref (ga K "all_pairs")) := glo_ok X G (d.fact 23 (f := .glo "all_pairs") rfl)
  have K_all_pairs : ∀ s c, FnOk prR w K mg base CX0 6 (ga K "all_pairs") fd_all_pairs ["crowds"] (spN (ΓS T s c) rAllPairs) := fun s c => ok_all_pairs tk F_all_pairs (code_of F_all_pairs) B_all_pairs T_all_pairs U_all_pairs (lamOkS T_all_pairs) G_common_many
  have G_all_pairs : ∀ s c, Has prR w K mg base "all_pairs" ["crowds"] 6 (spN (ΓS T s c) rAllPairs) := fun s c => Has.of F_all_pairs m_all_pairs (K_all_pairs s c) fun _ _ _ _ _ _ us hl => match us, hl with | [_], _ => rfl
  obtain ⟨fd_crowd_tree_of, F_crowd_tree_of⟩ := getTop d 25 "crowd_tree_of" 40 rfl
  have m_crowd_tree_of : mg "crowd_tree_of" = some (.ref (ga K "crowd_tree_of")) := glo_ok X G (d.fact 25 (f := .glo "crowd_tree_of") rfl)
  have K_crowd_tree_of : ∀ s c, FnOk prR w K mg base CX0 12 (ga K "crowd_tree_of") fd_crowd_tree_of ["chart"] (spN (ΓS T s c) (rTree (ga K "Map"))) := fun s c => ok_crowd_tree_of tk F_crowd_tree_of (G_crowds_of s c) (G_all_pairs s c) G_tied_lots
  have G_crowd_tree_of : ∀ s c, Has prR w K mg base "crowd_tree_of" ["chart"] 12 (spN (ΓS T s c) (rTree (ga K "Map"))) := fun s c => Has.of F_crowd_tree_of m_crowd_tree_of (K_crowd_tree_of s c) fun _ _ _ _ _ _ us hl => match us, hl with | [_], _ => rfl
  obtain ⟨fd_judge_crowd_tree, F_judge_crowd_tree⟩ := getTop d 27 "judge_crowd_tree" 42 rfl
  have m_judge_crowd_tree : mg "judge_crowd_tree" = some (.ref (ga K "judge_crowd_tree")) := glo_ok X G (d.fact 27 (f := .glo "judge_crowd_tree") rfl)
  have K_judge_crowd_tree : ∀ s c, FnOk prR w K mg base CX0 12 (ga K "judge_crowd_tree") fd_judge_crowd_tree ["chart", "value"] (spF (ΓS T s c) (rJudge (ga K "Map"))) := fun s c => ok_judge tk F_judge_crowd_tree G_good (G_crowds_of s c) G_are_pairs G_common_many G_tied_lots M_posts
  have G_judge_crowd_tree : ∀ s c, Has prR w K mg base "judge_crowd_tree" ["chart", "value"] 12 (spF (ΓS T s c) (rJudge (ga K "Map"))) := fun s c => Has.of F_judge_crowd_tree m_judge_crowd_tree (K_judge_crowd_tree s c) fun _ _ _ _ _ _ us hl => match us, hl with | [_, _], _ => rfl
  obtain ⟨fd_wrong_tie, F_wrong_tie⟩ := getTop d 17 "wrong_tie" 29 rfl
  have m_wrong_tie : mg "wrong_tie" = some (.ref (ga K "wrong_tie")) := glo_ok X G (d.fact 17 (f := .glo "wrong_tie") rfl)
  have G_wrong_tie : Has prR w K mg base "wrong_tie" ["posts", "ties"] 3 (spF G0 rWrongTie) := Has.of F_wrong_tie m_wrong_tie (ok_wrong_tie tk F_wrong_tie G_is_list G_is_row G_is_among) fun _ _ _ _ _ _ us hl => match us, hl with | [_, _], _ => rfl
  obtain ⟨fdM_init, FM_init⟩ := getMap d 52 "__init__" "Map.__init__" 0 rfl
  have MK : HasMk prR w K mg base (ga K "Map") := ⟨_, _, mkr_ok (d.fact 60 (f := .mkr "Map") rfl), ok_m_init tk FM_init G_wrong_post G_wrong_tie, m_Map, FM_init.bindsN fun _ _ _ _ _ _ us hl => match us, hl with | [_, _, _], _ => rfl⟩
  obtain ⟨fd__law_is_near, F__law_is_near⟩ := getTop d 40 "_law_is_near" 56 rfl
  have m__law_is_near : mg "_law_is_near" = some (.ref (ga K "_law_is_near")) := glo_ok X G (d.fact 40 (f := .glo "_law_is_near") rfl)
  have G__law_is_near : Has prR w K mg base "_law_is_near" ["_law_world", "_law_one", "_law_other"] 1 (spF G0 (rLNear (ga K "Map"))) := Has.of F__law_is_near m__law_is_near (ok__law_is_near tk F__law_is_near) fun _ _ _ _ _ _ us hl => match us, hl with | [_, _, _], _ => rfl
  obtain ⟨fd__law_is_crowd, F__law_is_crowd⟩ := getTop d 41 "_law_is_crowd" 57 rfl
  have m__law_is_crowd : mg "_law_is_crowd" = some (.ref (ga K "_law_is_crowd")) := glo_ok X G (d.fact 41 (f := .glo "_law_is_crowd") rfl)
  have G__law_is_crowd : Has prR w K mg base "_law_is_crowd" ["_law_world", "_law_posts"] 2 (spF G0 (rLCrowd (ga K "Map"))) := Has.of F__law_is_crowd m__law_is_crowd (ok__law_is_crowd tk F__law_is_crowd G__law_is_near) fun _ _ _ _ _ _ us hl => match us, hl with | [_, _], _ => rfl
  obtain ⟨fd__law_peeled, F__law_peeled⟩ := getTop d 42 "_law_peeled" 58 rfl
  have m__law_peeled : mg "_law_peeled" = some (.ref (ga K "_law_peeled")) := glo_ok X G (d.fact 42 (f := .glo "_law_peeled") rfl)
  have G__law_peeled : Has prR w K mg base "_law_peeled" ["_law_world"] 3 (spF G0 (rLPeeled (ga K "Map"))) := Has.of F__law_peeled m__law_peeled (ok__law_peeled tk F__law_peeled G__law_is_near G__law_is_crowd) fun _ _ _ _ _ _ us hl => match us, hl with | [_], _ => rfl
  obtain ⟨fd__law_is_ring, F__law_is_ring⟩ := getTop d 44 "_law_is_ring" 60 rfl
  have m__law_is_ring : mg "_law_is_ring" = some (.ref (ga K "_law_is_ring")) := glo_ok X G (d.fact 44 (f := .glo "_law_is_ring") rfl)
  have G__law_is_ring : Has prR w K mg base "_law_is_ring" ["_law_world", "_law_value"] 2 (spF G0 (rLRing (ga K "Map"))) := Has.of F__law_is_ring m__law_is_ring (ok__law_is_ring tk F__law_is_ring G__law_is_near) fun _ _ _ _ _ _ us hl => match us, hl with | [_, _], _ => rfl
  obtain ⟨fd__law_cross, F__law_cross⟩ := getTop d 45 "_law_cross" 61 rfl
  have m__law_cross : mg "_law_cross" = some (.ref (ga K "_law_cross")) := glo_ok X G (d.fact 45 (f := .glo "_law_cross") rfl)
  have G__law_cross : Has prR w K mg base "_law_cross" ["_law_world", "_law_ring"] 2 (spF G0 (rLCross (ga K "Map"))) := Has.of F__law_cross m__law_cross (ok__law_cross tk F__law_cross G__law_is_near) fun _ _ _ _ _ _ us hl => match us, hl with | [_, _], _ => rfl
  obtain ⟨fd__law_is_long, F__law_is_long⟩ := getTop d 46 "_law_is_long" 62 rfl
  have m__law_is_long : mg "_law_is_long" = some (.ref (ga K "_law_is_long")) := glo_ok X G (d.fact 46 (f := .glo "_law_is_long") rfl)
  have G__law_is_long : Has prR w K mg base "_law_is_long" ["_law_world", "_law_value"] 3 (spF G0 (rLRing (ga K "Map"))) := Has.of F__law_is_long m__law_is_long (ok__law_is_long tk F__law_is_long G__law_is_ring G__law_cross) fun _ _ _ _ _ _ us hl => match us, hl with | [_, _], _ => rfl
  obtain ⟨fd__law_pick, F__law_pick⟩ := getTop d 29 "_law_pick" 45 rfl
  have m__law_pick : mg "_law_pick" = some (.ref (ga K "_law_pick")) := glo_ok X G (d.fact 29 (f := .glo "_law_pick") rfl)
  have K__law_pick : ∀ s c, FnOk prR w K mg base CX0 1 (ga K "_law_pick") fd__law_pick ["_law_source_here", "_law_many"] (spP (ΓS T s c) (rPick s)) := fun s c => ok__law_pick tk F__law_pick
  have G__law_pick : ∀ s c, Has prR w K mg base "_law_pick" ["_law_source_here", "_law_many"] 1 (spP (ΓS T s c) (rPick s)) := fun s c => Has.of F__law_pick m__law_pick (K__law_pick s c) fun _ _ _ _ _ _ us hl => match us, hl with | [_, _], _ => rfl
  obtain ⟨fd__law_of, F__law_of⟩ := getTop d 30 "_law_of" 46 rfl
  have m__law_of : mg "_law_of" = some (.ref (ga K "_law_of")) := glo_ok X G (d.fact 30 (f := .glo "_law_of") rfl)
  have K__law_of : ∀ s c, FnOk prR w K mg base CX0 2 (ga K "_law_of") fd__law_of ["_law_source_here", "_law_some"] (spP (ΓS T s c) (rOf s)) := fun s c => ok__law_of tk F__law_of (G__law_pick s c)
  have G__law_of : ∀ s c, Has prR w K mg base "_law_of" ["_law_source_here", "_law_some"] 2 (spP (ΓS T s c) (rOf s)) := fun s c => Has.of F__law_of m__law_of (K__law_of s c) fun _ _ _ _ _ _ us hl => match us, hl with | [_, _], _ => rfl
  obtain ⟨fd__law_mixed, F__law_mixed⟩ := getTop d 31 "_law_mixed" 47 rfl
  have m__law_mixed : mg "_law_mixed" = some (.ref (ga K "_law_mixed")) := glo_ok X G (d.fact 31 (f := .glo "_law_mixed") rfl)
  have K__law_mixed : ∀ s c, FnOk prR w K mg base CX0 2 (ga K "_law_mixed") fd__law_mixed ["_law_source_here", "_law_things"] (spNP (ΓS T s c) (rMixed s)) := fun s c => ok__law_mixed tk F__law_mixed (G__law_pick s c)
  have G__law_mixed : ∀ s c, Has prR w K mg base "_law_mixed" ["_law_source_here", "_law_things"] 2 (spNP (ΓS T s c) (rMixed s)) := fun s c => Has.of F__law_mixed m__law_mixed (K__law_mixed s c) fun _ _ _ _ _ _ us hl => match us, hl with | [_, _], _ => rfl
  obtain ⟨fd__law_names, F__law_names⟩ := getTop d 32 "_law_names" 48 rfl
  have m__law_names : mg "_law_names" = some (.ref (ga K "_law_names")) := glo_ok X G (d.fact 32 (f := .glo "_law_names") rfl)
  have K__law_names : ∀ s c, FnOk prR w K mg base CX0 2 (ga K "_law_names") fd__law_names ["_law_source_here", "_law_many"] (spP (ΓS T s c) (rNames s)) := fun s c => ok__law_names tk F__law_names (G__law_pick s c)
  have G__law_names : ∀ s c, Has prR w K mg base "_law_names" ["_law_source_here", "_law_many"] 2 (spP (ΓS T s c) (rNames s)) := fun s c => Has.of F__law_names m__law_names (K__law_names s c) fun _ _ _ _ _ _ us hl => match us, hl with | [_, _], _ => rfl
  obtain ⟨fd__law_turned_ties, F__law_turned_ties⟩ := getTop d 35 "_law_turned_ties" 51 rfl
  have m__law_turned_ties : mg "_law_turned_ties" = some (.ref (ga K "_law_turned_ties")) := glo_ok X G (d.fact 35 (f := .glo "_law_turned_ties") rfl)
  have K__law_turned_ties : ∀ s c, FnOk prR w K mg base CX0 3 (ga K "_law_turned_ties") fd__law_turned_ties ["_law_source_here", "_law_ties"] (spP (ΓS T s c) (rTurned s)) := fun s c => ok__law_turned_ties tk F__law_turned_ties (G__law_pick s c) (G__law_mixed s c)
  have G__law_turned_ties : ∀ s c, Has prR w K mg base "_law_turned_ties" ["_law_source_here", "_law_ties"] 3 (spP (ΓS T s c) (rTurned s)) := fun s c => Has.of F__law_turned_ties m__law_turned_ties (K__law_turned_ties s c) fun _ _ _ _ _ _ us hl => match us, hl with | [_, _], _ => rfl
  obtain ⟨fd__law_any_ties, F__law_any_ties⟩ := getTop d 34 "_law_any_ties" 50 rfl
  have m__law_any_ties : mg "_law_any_ties" = some (.ref (ga K "_law_any_ties")) := glo_ok X G (d.fact 34 (f := .glo "_law_any_ties") rfl)
  have K__law_any_ties : ∀ s c, FnOk prR w K mg base CX0 2 (ga K "_law_any_ties") fd__law_any_ties ["_law_source_here", "_law_posts", "_law_share"] (spP (ΓS T s c) (rAnyTies s)) := fun s c => ok__law_any_ties tk F__law_any_ties (G__law_pick s c)
  have G__law_any_ties : ∀ s c, Has prR w K mg base "_law_any_ties" ["_law_source_here", "_law_posts", "_law_share"] 2 (spP (ΓS T s c) (rAnyTies s)) := fun s c => Has.of F__law_any_ties m__law_any_ties (K__law_any_ties s c) fun _ _ _ _ _ _ us hl => match us, hl with | [_, _, _], _ => rfl
  obtain ⟨fd__law_good_ties, F__law_good_ties⟩ := getTop d 33 "_law_good_ties" 49 rfl
  have m__law_good_ties : mg "_law_good_ties" = some (.ref (ga K "_law_good_ties")) := glo_ok X G (d.fact 33 (f := .glo "_law_good_ties") rfl)
  have K__law_good_ties : ∀ s c, FnOk prR w K mg base CX0 3 (ga K "_law_good_ties") fd__law_good_ties ["_law_source_here", "_law_posts"] (spP (ΓS T s c) (rTiesOf s)) := fun s c => ok__law_good_ties tk F__law_good_ties (G__law_pick s c) (G__law_of s c) (G__law_mixed s c)
  have G__law_good_ties : ∀ s c, Has prR w K mg base "_law_good_ties" ["_law_source_here", "_law_posts"] 3 (spP (ΓS T s c) (rTiesOf s)) := fun s c => Has.of F__law_good_ties m__law_good_ties (K__law_good_ties s c) fun _ _ _ _ _ _ us hl => match us, hl with | [_, _], _ => rfl
  obtain ⟨fd__law_made, F__law_made⟩ := getTop d 38 "_law_made" 54 rfl
  have m__law_made : mg "_law_made" = some (.ref (ga K "_law_made")) := glo_ok X G (d.fact 38 (f := .glo "_law_made") rfl)
  have G__law_made : Has prR w K mg base "_law_made" ["_law_posts", "_law_ties"] 6 (spF G0 (rMade (ga K "Map"))) := Has.of F__law_made m__law_made (ok__law_made F__law_made MK) fun _ _ _ _ _ _ us hl => match us, hl with | [_, _], _ => rfl
  obtain ⟨fd__law_map, F__law_map⟩ := getTop d 36 "_law_map" 52 rfl
  have m__law_map : mg "_law_map" = some (.ref (ga K "_law_map")) := glo_ok X G (d.fact 36 (f := .glo "_law_map") rfl)
  have K__law_map : ∀ s c, FnOk prR w K mg base CX0 7 (ga K "_law_map") fd__law_map ["_law_source_here", "_law_most"] (spP (ΓS T s c) (rLMap (ga K "Map") s)) := fun s c => ok__law_map F__law_map (G__law_pick s c) (G__law_names s c) (G__law_turned_ties s c) (G__law_good_ties s c) (G__law_mixed s c) G__law_made
  have G__law_map : ∀ s c, Has prR w K mg base "_law_map" ["_law_source_here", "_law_most"] 7 (spP (ΓS T s c) (rLMap (ga K "Map") s)) := fun s c => Has.of F__law_map m__law_map (K__law_map s c) fun _ _ _ _ _ _ us hl => match us, hl with | [_, _], _ => rfl
  obtain ⟨fd__law_any_map, F__law_any_map⟩ := getTop d 37 "_law_any_map" 53 rfl
  have m__law_any_map : mg "_law_any_map" = some (.ref (ga K "_law_any_map")) := glo_ok X G (d.fact 37 (f := .glo "_law_any_map") rfl)
  have K__law_any_map : ∀ s c, FnOk prR w K mg base CX0 7 (ga K "_law_any_map") fd__law_any_map ["_law_source_here", "_law_most"] (spP (ΓS T s c) (rLMap (ga K "Map") s)) := fun s c => ok__law_any_map F__law_any_map (G__law_pick s c) (G__law_names s c) (G__law_turned_ties s c) (G__law_any_ties s c) G__law_made
  have G__law_any_map : ∀ s c, Has prR w K mg base "_law_any_map" ["_law_source_here", "_law_most"] 7 (spP (ΓS T s c) (rLMap (ga K "Map") s)) := fun s c => Has.of F__law_any_map m__law_any_map (K__law_any_map s c) fun _ _ _ _ _ _ us hl => match us, hl with | [_, _], _ => rfl
  obtain ⟨fd__law_ring_map, F__law_ring_map⟩ := getTop d 39 "_law_ring_map" 55 rfl
  have m__law_ring_map : mg "_law_ring_map" = some (.ref (ga K "_law_ring_map")) := glo_ok X G (d.fact 39 (f := .glo "_law_ring_map") rfl)
  have K__law_ring_map : ∀ s c, FnOk prR w K mg base CX0 7 (ga K "_law_ring_map") fd__law_ring_map ["_law_source_here", "_law_k", "_law_more"] (spP (ΓS T s c) (rLRingMap (ga K "Map") s)) := fun s c => ok__law_ring_map tk F__law_ring_map (G__law_pick s c) (G__law_names s c) (G__law_turned_ties s c) (G__law_mixed s c) G__law_made
  have G__law_ring_map : ∀ s c, Has prR w K mg base "_law_ring_map" ["_law_source_here", "_law_k", "_law_more"] 7 (spP (ΓS T s c) (rLRingMap (ga K "Map") s)) := fun s c => Has.of F__law_ring_map m__law_ring_map (K__law_ring_map s c) fun _ _ _ _ _ _ us hl => match us, hl with | [_, _, _], _ => rfl
  obtain ⟨fd__law_some_map, F__law_some_map⟩ := getTop d 43 "_law_some_map" 59 rfl
  have m__law_some_map : mg "_law_some_map" = some (.ref (ga K "_law_some_map")) := glo_ok X G (d.fact 43 (f := .glo "_law_some_map") rfl)
  have K__law_some_map : ∀ s c, FnOk prR w K mg base CX0 8 (ga K "_law_some_map") fd__law_some_map ["_law_source_here", "_law_most"] (spP (ΓS T s c) (rSomeMap (ga K "Map") s)) := fun s c => ok__law_some_map tk F__law_some_map (G__law_pick s c) (G__law_map s c) (G__law_any_map s c) (G__law_ring_map s c) G__law_made
  have G__law_some_map : ∀ s c, Has prR w K mg base "_law_some_map" ["_law_source_here", "_law_most"] 8 (spP (ΓS T s c) (rSomeMap (ga K "Map") s)) := fun s c => Has.of F__law_some_map m__law_some_map (K__law_some_map s c) fun _ _ _ _ _ _ us hl => match us, hl with | [_, _], _ => rfl
  obtain ⟨fd__law_is_tree, F__law_is_tree⟩ := getTop d 49 "_law_is_tree" 65 rfl
  have m__law_is_tree : mg "_law_is_tree" = some (.ref (ga K "_law_is_tree")) := glo_ok X G (d.fact 49 (f := .glo "_law_is_tree") rfl)
  have G__law_is_tree : Has prR w K mg base "_law_is_tree" ["_law_world", "_law_crowds_here", "_law_value"] 1 (spF G0 (rLTree (ga K "Map"))) := Has.of F__law_is_tree m__law_is_tree (ok__law_is_tree tk F__law_is_tree) fun _ _ _ _ _ _ us hl => match us, hl with | [_, _, _], _ => rfl
  obtain ⟨fd__law_quick, F__law_quick⟩ := getTop d 50 "_law_quick" 66 rfl
  have m__law_quick : mg "_law_quick" = some (.ref (ga K "_law_quick")) := glo_ok X G (d.fact 50 (f := .glo "_law_quick") rfl)
  have G__law_quick : Has prR w K mg base "_law_quick" ["_law_world"] 4 (spF G0 (rLCr (ga K "Map") 16)) := Has.of F__law_quick m__law_quick (ok__law_quick tk F__law_quick G__law_is_near G__law_peeled) fun _ _ _ _ _ _ us hl => match us, hl with | [_], _ => rfl
  obtain ⟨fd__law_crowds, F__law_crowds⟩ := getTop d 48 "_law_crowds" 64 rfl
  have m__law_crowds : mg "_law_crowds" = some (.ref (ga K "_law_crowds")) := glo_ok X G (d.fact 48 (f := .glo "_law_crowds") rfl)
  have G__law_crowds : Has prR w K mg base "_law_crowds" ["_law_world"] 3 (spF G0 (rLCr (ga K "Map") 8)) := Has.of F__law_crowds m__law_crowds (ok__law_crowds tk F__law_crowds G__law_is_near G__law_is_crowd) fun _ _ _ _ _ _ us hl => match us, hl with | [_], _ => rfl
  obtain ⟨fd__law_source, F__law_source⟩ := getTop d 28 "_law_source" 44 rfl
  have m__law_source : mg "_law_source" = some (.ref (ga K "_law_source")) := glo_ok X G (d.fact 28 (f := .glo "_law_source") rfl)
  have G__law_source : Has prR w K mg base "_law_source" ["_law_script"] 1 (spSrc K) := Has.of F__law_source m__law_source (ok__law_source tk F__law_source) fun _ _ _ _ _ _ us hl => match us, hl with | [_], _ => rfl
  obtain ⟨fd__law_refused, F__law_refused⟩ := getTop d 47 "_law_refused" 63 rfl
  have m__law_refused : mg "_law_refused" = some (.ref (ga K "_law_refused")) := glo_ok X G (d.fact 47 (f := .glo "_law_refused") rfl)
  have ngr : NgR K (ga K "NotGood") := ⟨xfB_ok x2, noat_ok (d.fact 62 (f := .noat "NotGood" "ring") rfl), exm_ok (d.fact 61 (f := .exm "NotGood" "NotGood" true) rfl)⟩
  have oex := oexB_ok x1
  obtain ⟨fdI, FI⟩ := ini_of (P := prR) (C := ga K "NotGood") z.i x3 x4 (by decide +kernel)
  have bI : Binds K fdI ["self", "ring"] [] := by
    obtain ⟨_, _, _, _, _, _, _, _, _, e, _⟩ := FI.ex
    subst e
    exact Binds.all fun us hl => match us, hl with | [_, _], _ => rfl
  have kI : FnOk prR w K mg base CX0 1 (fAd K ngD) fdI ["self", "ring"] (spIni (ga K "NotGood") "ring") := ok_ini FI oex tk.b.super ngr.no (nscope_by (by kernel_rfl)) (by rfl) (by rfl) (by rfl) (fun env => by rfl) (by decide) (by decide) (fun env => by rfl)
  have ngo : NgOk prR w K mg base (ga K "NotGood") := ⟨oex, m_NG, _, fdI, of_decide_eq_true x8, of_decide_eq_true x9, kI, bI⟩
  have X_need : ∀ s c, HasX prR w K mg base "need_good" ["chart"] 10 (spBad (ΓS T s c) (ga K "Map") (ga K "NotGood")) := fun s c => HasX.of F_need_good m_need_good (ok_need_bad tk ngo F_need_good G_peeling_of G_long_ring_of) fun _ _ _ _ _ _ us hl => match us, hl with | [_], _ => rfl
  have X_crowds : ∀ s c, HasX prR w K mg base "crowds_of" ["chart"] 11 (spBad (ΓS T s c) (ga K "Map") (ga K "NotGood")) := fun s c => HasX.of F_crowds_of m_crowds_of (ok_crowds_bad F_crowds_of (X_need s c)) fun _ _ _ _ _ _ us hl => match us, hl with | [_], _ => rfl
  have X_tree : HasX prR w K mg base "crowd_tree_of" ["chart"] 12 (spX fun s c => spBad (ΓS T s c) (ga K "Map") (ga K "NotGood")) := HasX.of F_crowd_tree_of m_crowd_tree_of (ok_spX fun s c => ok_tree_bad F_crowd_tree_of (X_crowds s c)) fun _ _ _ _ _ _ us hl => match us, hl with | [_], _ => rfl
  have S_some : Has prR w K mg base "_law_some_map" ["_law_source_here", "_law_most"] 8 (spX fun s c => spP (ΓS T s c) (rSomeMap (ga K "Map") s)) := Has.of F__law_some_map m__law_some_map (ok_spX K__law_some_map) fun _ _ _ _ _ _ us hl => match us, hl with | [_, _], _ => rfl
  have S_map : Has prR w K mg base "_law_map" ["_law_source_here", "_law_most"] 7 (spX fun s c => spP (ΓS T s c) (rLMap (ga K "Map") s)) := Has.of F__law_map m__law_map (ok_spX K__law_map) fun _ _ _ _ _ _ us hl => match us, hl with | [_, _], _ => rfl
  have S_tree : Has prR w K mg base "crowd_tree_of" ["chart"] 12 (spX fun s c => spN (ΓS T s c) (rTree (ga K "Map"))) := Has.of F_crowd_tree_of m_crowd_tree_of (ok_spX K_crowd_tree_of) fun _ _ _ _ _ _ us hl => match us, hl with | [_], _ => rfl
  have S_judge : Has prR w K mg base "judge_crowd_tree" ["chart", "value"] 12 (spX fun s c => spF (ΓS T s c) (rJudge (ga K "Map"))) := Has.of F_judge_crowd_tree m_judge_crowd_tree (ok_spX K_judge_crowd_tree) fun _ _ _ _ _ _ us hl => match us, hl with | [_, _], _ => rfl
  have bR : Binds K fd__law_refused ["_law_call"] [] := F__law_refused.bindsN fun _ _ _ _ _ _ us hl => match us, hl with | [_], _ => rfl
  exact ok_law tk F_law (code_of F_law) B_law T_law U_law ngr m_NG F__law_refused m__law_refused bR G__law_source S_some S_map G__law_peeled G__law_is_long G__law_crowds G__law_quick G__law_is_tree G_long_ring_of S_tree X_tree S_judge MK
end CW
/-! E7 -/
open PySem PySem.W PySem.Calls PyProof.Rows
theorem PySem.Challenge.cw_crossties_k17_whole_crowd_trees_told_holds : PySem.Challenge.rw_crossties_k17_whole_crowd_trees_told.Holds := by
  w_on; o_law
  refine HandSHeadRun.head_any (r := CW.rowR) (q := view CW.rowR.prog [67]) (H := CW.hookY) (ob := CW.obY) (M := 6000) (loose := CW.nmS) (d := HandSHeadRun.topDef CW.rowR.prog 67) (kwd := []) CW.obY_eq
    (by kernel_rfl) (fun s => by kernel_rfl) CW.runY (by kernel_rfl) (by kernel_rfl) (by kernel_rfl) (by rfl) (by first | assumption | decide +kernel) (by decide +kernel) ⟨rfl, rfl, rfl, rfl, rfl, by decide +kernel⟩ ?hw ?hc
  case hw => w_witness2
  case hc =>
    refine LamX.walk_ofTsE (l := PySem.Challenge.rw_crossties_k17_whole_crowd_trees_told) (n := 63) (k := 15) (x := "_law_script") (CX := fun _ => L2.CX0) rfl (by decide) (by kernel_rfl) ⟨rfl, by decide, by decide⟩ ?F (fun _ _ _ _ _ z => z)
    intro w mg fa h Y G hmg0
    obtain ⟨K, KX, c⟩ := Y
    have hmg : mg ("law" : PySem.Str) = some (.ref fa) := by
      have e : (HandSHeadRun.topDef CW.rowR.prog 67).name = ("law" : PySem.Str) := by kernel_rfl
      rw [← e]
      exact hmg0
    exact ⟨K, KX, CW.lawAt KX G hmg c⟩
