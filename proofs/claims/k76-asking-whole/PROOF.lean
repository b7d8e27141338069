import PyProof.Rows.All
import Wide.All
import OpenK.AllK
import Wide.FinOn
import KE.KStateDown
import HandS.ForMost
import HandS.More
import HandS.Exc
import HandS.TryOnly
import HandS.ExcInit
import HandS.ExcOwn
import HandS.Defaults
import HandS.IsInst
import HandS.Head3
import HandS.HeadEnd
import HandS.HeadHook2
import HandS.Style
import HandS.Wide
import HandS.WideBits
import KE.KSort
import HandS.CallSlots
import HandS.ExcField
import HandS.ExcIs
import KE.KExcIs
import HandS.Small
import HandS.OwnEq
import KE.KOpsOwn
import HandS.Zip
import KE.GoesMore
import HandS.Flt
import HandS.SortKw
import KE.DataMinMax
import HandS.SetFor
import HandS.Strs
import HandS.Gcd
import HandS.Text
import KE.KMathGC
import HandS.MakeKwOnly
import HandS.HeadWalk
import PySem.Challenge.RW_nothingmadeup_k76_asking_whole
set_option Elab.async false
set_option linter.all false
set_option maxRecDepth 100000
set_option autoImplicit false
set_option maxHeartbeats 1000000
/-! Ev1: data trees, what stands for them, frames. -/
namespace Ev
open PySem L2

inductive D where
  | non
  | bl (b : Bool)
  | int (i : Int)
  | str (s : List Nat)
  | lst (l : List D)
  | lsk (l : List D)
  | tup (l : List D)
  | dct (l : List (Key × D))
  | obj (c : Nat) (l : List D)

/-- the classes: where each stands, its fields in order -/
structure Tb where
  ca : Nat → Addr
  cf : Nat → List Str
  x : Addr × Value × Option Addr := (0, .none, none)

def Ex (H H' : Hp) : Prop := ∀ a o, H a = some o → H' a = some o
theorem Ex.refl (H : Hp) : Ex H H := fun _ _ h => h
theorem Ex.trans {H H1 H2 : Hp} (a : Ex H H1) (b : Ex H1 H2) : Ex H H2 := fun x o h => b x o (a x o h)
theorem Ex.new {H : Hp} {p : Addr} {o : HO} (h : H p = none) : Ex H (upd H p o) := fun a u e => by
  rw [upd_ne (ne_of_none e h)]
  exact e
theorem Ex.fresh {H H' : Hp} {p : Addr} (e : Ex H H') (h : H' p = none) : H p = none := by
  cases h1 : H p with
  | none => rfl
  | some o =>
    rw [e p o h1] at h
    cases h
theorem Ex.rd {H H' : Hp} {a : Addr} {u : HO} (e : Ex H H') (h : Rd H a u) : Rd H' a u := by
  rcases h with h | ⟨o, h⟩
  · exact Or.inl (e a _ h)
  · exact Or.inr ⟨o, e a _ h⟩
theorem Ex.sqL {K : PySem.W.Frag} {H H' : Hp} {a : Addr} {xs : List V} (e : Ex H H') (h : SqL K H a xs) : SqL K H' a xs := by
  rcases h with h | h
  · exact Or.inl (e.rd h)
  · exact Or.inr h
theorem Ex.sqT {K : PySem.W.Frag} {H H' : Hp} {a : Addr} {xs : List V} (e : Ex H H') (h : SqT K H a xs) : SqT K H' a xs := by
  rcases h with h | h
  · exact Or.inl (e.rd h)
  · exact Or.inr h

mutual
inductive Rep (K : PySem.W.Frag) (T : Tb) (H : Hp) : V → D → Prop
  | non : Rep K T H .non .non
  | bl (b : Bool) : Rep K T H (.bl b) (.bl b)
  | int (i : Int) : Rep K T H (.int i) (.int i)
  | str (s : List Nat) : Rep K T H (.str ⟨s.toArray⟩) (.str s)
  | lst (p : Addr) (vs : List V) (ds : List D) : H p = some (.lst vs) → Reps K T H vs ds → Rep K T H (.ref p) (.lst ds)
  | lsk (p : Addr) (vs : List V) (ds : List D) : SqL K H p vs → Reps K T H vs ds → Rep K T H (.ref p) (.lsk ds)
  | tup (p : Addr) (vs : List V) (ds : List D) : SqT K H p vs → Reps K T H vs ds → Rep K T H (.ref p) (.tup ds)
  | dct (p : Addr) (vs : List (Key × V)) (ds : List (Key × D)) : H p = some (.dK vs) → RepK K T H vs ds → Rep K T H (.ref p) (.dct ds)
  | obj (p dx : Addr) (c : Nat) (vs : List V) (ds : List D) : H p = some (.ins (T.ca c) dx ((T.cf c).zip vs)) → Reps K T H vs ds → vs.length ≤ (T.cf c).length → Rep K T H (.ref p) (.obj c ds)
inductive Reps (K : PySem.W.Frag) (T : Tb) (H : Hp) : List V → List D → Prop
  | nil : Reps K T H [] []
  | cons (v : V) (d : D) (vs : List V) (ds : List D) : Rep K T H v d → Reps K T H vs ds → Reps K T H (v :: vs) (d :: ds)
inductive RepK (K : PySem.W.Frag) (T : Tb) (H : Hp) : List (Key × V) → List (Key × D) → Prop
  | nil : RepK K T H [] []
  | cons (k : Key) (v : V) (d : D) (vs : List (Key × V)) (ds : List (Key × D)) : Rep K T H v d → RepK K T H vs ds → RepK K T H ((k, v) :: vs) ((k, d) :: ds)
end

section
variable {K : PySem.W.Frag} {T : Tb} {H H' : Hp}
mutual
theorem Rep.mono (e : Ex H H') : ∀ {v : V} {d : D}, Rep K T H v d → Rep K T H' v d
  | _, _, .non => .non
  | _, _, .bl b => .bl b
  | _, _, .int i => .int i
  | _, _, .str s => .str s
  | _, _, .lst p vs ds h r => .lst p vs ds (e _ _ h) (Reps.mono e r)
  | _, _, .lsk p vs ds h r => .lsk p vs ds (e.sqL h) (Reps.mono e r)
  | _, _, .tup p vs ds h r => .tup p vs ds (e.sqT h) (Reps.mono e r)
  | _, _, .dct p vs ds h r => .dct p vs ds (e _ _ h) (RepK.mono e r)
  | _, _, .obj p dx c vs ds h r z => .obj p dx c vs ds (e _ _ h) (Reps.mono e r) z
theorem Reps.mono (e : Ex H H') : ∀ {vs : List V} {ds : List D}, Reps K T H vs ds → Reps K T H' vs ds
  | _, _, .nil => .nil
  | _, _, .cons v d vs ds h r => .cons v d vs ds (Rep.mono e h) (Reps.mono e r)
theorem RepK.mono (e : Ex H H') : ∀ {vs : List (Key × V)} {ds : List (Key × D)}, RepK K T H vs ds → RepK K T H' vs ds
  | _, _, .nil => .nil
  | _, _, .cons k v d vs ds h r => .cons k v d vs ds (Rep.mono e h) (RepK.mono e r)
end

theorem Reps.length : ∀ {vs : List V} {ds : List D}, Reps K T H vs ds → vs.length = ds.length
  | _, _, .nil => rfl
  | _, _, .cons _ _ _ _ _ r => congrArg (· + 1) (Reps.length r)
theorem Reps.get : ∀ {vs : List V} {ds : List D} {i : Nat} {d : D}, Reps K T H vs ds → ds[i]? = some d → ∃ v, vs[i]? = some v ∧ Rep K T H v d
  | _, _, _, _, .nil, e => by simp at e
  | _, _, 0, _, .cons v _ _ _ h _, e => by
    simp at e
    subst e
    exact ⟨v, rfl, h⟩
  | _, _, i + 1, d, .cons _ _ _ _ _ r, e => by
    obtain ⟨v, h1, h2⟩ := Reps.get (i := i) (d := d) r (by simpa using e)
    exact ⟨v, by simpa using h1, h2⟩
theorem Reps.getV : ∀ {vs : List V} {ds : List D} {i : Nat} {v : V}, Reps K T H vs ds → vs[i]? = some v → ∃ d, ds[i]? = some d ∧ Rep K T H v d
  | _, _, _, _, .nil, e => by simp at e
  | _, _, 0, _, .cons _ d _ _ h _, e => by
    simp at e
    subst e
    exact ⟨d, rfl, h⟩
  | _, _, i + 1, v, .cons _ _ _ _ _ r, e => by
    obtain ⟨d, h1, h2⟩ := Reps.getV (i := i) (v := v) r (by simpa using e)
    exact ⟨d, by simpa using h1, h2⟩
theorem Reps.append : ∀ {vs ws : List V} {ds es : List D}, Reps K T H vs ds → Reps K T H ws es → Reps K T H (vs ++ ws) (ds ++ es)
  | _, _, _, _, .nil, s => s
  | _, _, _, _, .cons v d vs ds h r, s => .cons v d _ _ h (Reps.append r s)
theorem Reps.take : ∀ {vs : List V} {ds : List D} (n : Nat), Reps K T H vs ds → Reps K T H (vs.take n) (ds.take n)
  | _, _, 0, _ => .nil
  | _, _, _ + 1, .nil => .nil
  | _, _, n + 1, .cons v d _ _ h r => .cons v d _ _ h (Reps.take n r)
theorem Reps.drop : ∀ {vs : List V} {ds : List D} (n : Nat), Reps K T H vs ds → Reps K T H (vs.drop n) (ds.drop n)
  | _, _, 0, r => r
  | _, _, _ + 1, .nil => .nil
  | _, _, n + 1, .cons _ _ _ _ _ r => Reps.drop n r
theorem Reps.set {v : V} {d : D} (q : Rep K T H v d) : ∀ {vs : List V} {ds : List D} (i : Nat), Reps K T H vs ds → Reps K T H (vs.set i v) (ds.set i d)
  | _, _, _, .nil => .nil
  | _, _, 0, .cons _ _ _ _ _ r => .cons v d _ _ q r
  | _, _, i + 1, .cons v' d' _ _ h r => .cons v' d' _ _ h (Reps.set q i r)
theorem Reps.reverse : ∀ {vs : List V} {ds : List D}, Reps K T H vs ds → Reps K T H vs.reverse ds.reverse
  | _, _, .nil => .nil
  | _, _, .cons v d vs ds h r => by
    rw [List.reverse_cons, List.reverse_cons]
    exact Reps.append (Reps.reverse r) (.cons v d [] [] h .nil)
theorem Reps.rep {vs : List V} {ds : List D} (h : Reps K T H vs ds) : ∀ k : Nat, Reps K T H (List.replicate k vs).flatten (List.replicate k ds).flatten
  | 0 => .nil
  | k + 1 => by
    rw [List.replicate_succ, List.replicate_succ, List.flatten_cons, List.flatten_cons]
    exact Reps.append h (Reps.rep h k)
theorem Reps.nil_iff {vs : List V} {ds : List D} (h : Reps K T H vs ds) : vs = [] ↔ ds = [] := by
  cases h with
  | nil => simp
  | cons => simp
end

/-! ### values with their marks: borrowed (its top may be owned), plain, new (its top made by this very expression); f: all of it new since the frame began -/
inductive Mk3 where
  | bo
  | pl
  | nw
structure Vl where
  d : D
  m : Mk3
  f : Bool
inductive R (α : Type) where
  | ok (a : α)
  | exc (c : Nat) (l : List D)
  | bad
def R.bind {α β : Type} (r : R α) (k : α → R β) : R β := match r with
  | .ok a => k a
  | .exc c l => .exc c l
  | .bad => .bad
theorem R.bind_ok {α β : Type} (a : α) (k : α → R β) : (R.ok a).bind k = k a := rfl
def ofO {α β : Type} (o : Option α) (k : α → R β) : R β := match o with
  | some a => k a
  | none => .bad
inductive SV where
  | un
  | sh (d : D) (f : Bool)
  | ow (d : D) (f : Bool)
  | ex (c : Nat) (l : List D)
abbrev En := List SV
def scalar : D → Bool
  | .non => true
  | .bl _ => true
  | .int _ => true
  | .str _ => true
  | _ => false

/-- a list, a dict, an instance -/
def ownb : D → Bool
  | .lst _ => true
  | .dct _ => true
  | .obj _ _ => true
  | _ => false

def isObj : D → Bool
  | .obj _ _ => true
  | _ => false

/-! ### what a frame sees -/
def Owned (ρ : En) (σ : L2.St) (a : Addr) : Prop := ∃ (i : Nat) (d : D) (f : Bool), ρ[i]? = some (.ow d f) ∧ σ[i]? = some (some (.ref a))
structure Fp where
  H0 : Hp
  V0 : Hp
  hs : List Addr
  me : Addr
/-- hidden: owned by a slot, or being made -/
def Hid (F : Fp) (ρ : En) (σ : L2.St) (a : Addr) : Prop := Owned ρ σ a ∨ a ∈ F.hs
open Classical in
noncomputable def visB (F : Fp) (ρ : En) (σ : L2.St) (H : Hp) : Hp := fun a => if Hid F ρ σ a then none else match F.H0 a with
  | none => H a
  | some _ => F.V0 a
open Classical in
noncomputable def newB (F : Fp) (ρ : En) (σ : L2.St) (H : Hp) : Hp := fun a => if Hid F ρ σ a then none else match F.H0 a with
  | none => H a
  | some _ => none
noncomputable def hpB (F : Fp) (ρ : En) (σ : L2.St) (H : Hp) (f : Bool) : Hp := if f then newB F ρ σ H else visB F ρ σ H

/-- the top object may be owned: it stands in H, what it holds in G -/
def ShRep (K : PySem.W.Frag) (T : Tb) (H G : Hp) (v : V) : D → Prop
  | .lst ds => ∃ p vs, v = .ref p ∧ H p = some (.lst vs) ∧ Reps K T G vs ds
  | .dct ds => ∃ p vs, v = .ref p ∧ H p = some (.dK vs) ∧ RepK K T G vs ds
  | .obj c ds => ∃ p dx vs, v = .ref p ∧ H p = some (.ins (T.ca c) dx ((T.cf c).zip vs)) ∧ Reps K T G vs ds ∧ vs.length ≤ (T.cf c).length
  | d => Rep K T G v d
/-- an exception's fields (its own dict) -/
def ExF (K : PySem.W.Frag) (T : Tb) (G H : Hp) (dd : Option Addr) (c : Nat) (ds : List D) : Prop :=
  (T.cf c = [] ∧ dd = none ∧ ds = []) ∨ ∃ d vs, T.cf c ≠ [] ∧ dd = some d ∧ H d = some (.xd ((T.cf c).zip vs).reverse) ∧ Reps K T G vs ds ∧ vs.length = (T.cf c).length
def SlOk (K : PySem.W.Frag) (T : Tb) (F : Fp) (ρ : En) (σ : L2.St) (H : Hp) (o : Option (Option V)) : SV → Prop
  | .un => True
  | .sh d f => ∃ v, o = some (some v) ∧ Rep K T (hpB F ρ σ H f) v d
  | .ow d f => ∃ p, o = some (some (.ref p)) ∧ F.H0 p = none ∧ ShRep K T H (hpB F ρ σ H f) (.ref p) d ∧ p ∉ F.hs ∧ ownb d = true ∧ (isObj d = true → p = F.me)
  | .ex c l => o = some (some (.ref T.x.1)) ∧ T.x.2.1 = .ref (T.ca c) ∧ ExF K T (visB F ρ σ H) H T.x.2.2 c l
structure Fm (K : PySem.W.Frag) (T : Tb) (F : Fp) (ρ : En) (σ : L2.St) (H : Hp) : Prop where
  ex : Ex F.H0 H
  sub : Ex F.V0 F.H0
  len : ρ.length = σ.length
  sl : ∀ (i : Nat) (x : SV), ρ[i]? = some x → SlOk K T F ρ σ H (σ[i]?) x
  dis : ∀ (i j : Nat) (p : Addr) d d' f f', ρ[i]? = some (.ow d f) → ρ[j]? = some (.ow d' f') → σ[i]? = some (some (.ref p)) → σ[j]? = some (some (.ref p)) → i = j
  hid : ∀ a ∈ F.hs, F.H0 a = none ∧ ∃ o, H a = some o
def Fp.hide (F : Fp) (p : Addr) : Fp := { F with hs := p :: F.hs }
/-- a value as an expression gives it (Hs: the heap ahead of it) -/
def RepV (K : PySem.W.Frag) (T : Tb) (F : Fp) (ρ : En) (σ : L2.St) (v : V) (a : Vl) (Hs H : Hp) : Prop := match a.m with
  | .bo => ∃ p, v = .ref p ∧ F.H0 p = none ∧ ownb a.d = true ∧ ShRep K T H (hpB F ρ σ H a.f) (.ref p) a.d
  | .pl => Rep K T (hpB F ρ σ H a.f) v a.d
  | .nw => ∃ p, v = .ref p ∧ Hs p = none ∧ F.H0 p = none ∧ ¬ Hid F ρ σ p ∧ ownb a.d = true ∧ ShRep K T H (hpB (F.hide p) ρ σ H a.f) (.ref p) a.d

section
variable {K : PySem.W.Frag} {T : Tb} {F : Fp} {ρ : En} {σ : L2.St} {H H' : Hp}
theorem visB_hid {a : Addr} (h : Hid F ρ σ a) : visB F ρ σ H a = none := by
  unfold visB
  rw [if_pos h]
theorem newB_hid {a : Addr} (h : Hid F ρ σ a) : newB F ρ σ H a = none := by
  unfold newB
  rw [if_pos h]
theorem visB_new {a : Addr} (h : ¬ Hid F ρ σ a) (e : F.H0 a = none) : visB F ρ σ H a = H a := by
  unfold visB
  rw [if_neg h, e]
theorem newB_new {a : Addr} (h : ¬ Hid F ρ σ a) (e : F.H0 a = none) : newB F ρ σ H a = H a := by
  unfold newB
  rw [if_neg h, e]
theorem visB_old {a : Addr} {o : HO} (h : ¬ Hid F ρ σ a) (e : F.H0 a = some o) : visB F ρ σ H a = F.V0 a := by
  unfold visB
  rw [if_neg h, e]
theorem newB_old {a : Addr} {o : HO} (e : F.H0 a = some o) : newB F ρ σ H a = none := by
  unfold newB
  by_cases h : Hid F ρ σ a
  · rw [if_pos h]
  · rw [if_neg h, e]
theorem new_vis : Ex (newB F ρ σ H) (visB F ρ σ H) := fun a o e => by
  by_cases h : Hid F ρ σ a
  · rw [newB_hid h] at e
    cases e
  · cases h0 : F.H0 a with
    | none =>
      rw [newB_new h h0] at e
      rw [visB_new h h0]
      exact e
    | some x =>
      rw [newB_old h0] at e
      cases e
theorem hp_vis {f : Bool} : Ex (hpB F ρ σ H f) (visB F ρ σ H) := by
  cases f with
  | true => exact new_vis
  | false => exact Ex.refl _
theorem hp_le {f g : Bool} (h : g = true → f = true) : Ex (hpB F ρ σ H f) (hpB F ρ σ H g) := by
  cases g with
  | false => exact hp_vis
  | true =>
    rw [h rfl]
    exact Ex.refl _
theorem vis_H (hx : Ex F.H0 H) (hs : Ex F.V0 F.H0) : Ex (visB F ρ σ H) H := fun a o e => by
  by_cases h : Hid F ρ σ a
  · rw [visB_hid h] at e
    cases e
  · cases h0 : F.H0 a with
    | none =>
      rw [visB_new h h0] at e
      exact e
    | some x =>
      rw [visB_old h h0] at e
      exact hx _ _ (hs _ _ e)
theorem Fm.vH (R : Fm K T F ρ σ H) : Ex (visB F ρ σ H) H := vis_H R.ex R.sub
theorem Fm.hH (R : Fm K T F ρ σ H) {f : Bool} : Ex (hpB F ρ σ H f) H := hp_vis.trans R.vH
theorem vis_mono (e : Ex H H') : Ex (visB F ρ σ H) (visB F ρ σ H') := fun a o q => by
  by_cases h : Hid F ρ σ a
  · rw [visB_hid h] at q
    cases q
  · cases h0 : F.H0 a with
    | none =>
      rw [visB_new h h0] at q ⊢
      exact e _ _ q
    | some x =>
      rw [visB_old h h0] at q ⊢
      exact q
theorem new_mono (e : Ex H H') : Ex (newB F ρ σ H) (newB F ρ σ H') := fun a o q => by
  by_cases h : Hid F ρ σ a
  · rw [newB_hid h] at q
    cases q
  · cases h0 : F.H0 a with
    | none =>
      rw [newB_new h h0] at q ⊢
      exact e _ _ q
    | some x =>
      rw [newB_old h0] at q
      cases q
theorem hp_mono (e : Ex H H') {f : Bool} : Ex (hpB F ρ σ H f) (hpB F ρ σ H' f) := by
  cases f with
  | true => exact new_mono e
  | false => exact vis_mono e
theorem ShRep.mono {G G' : Hp} (e : Ex H H') (g : Ex G G') {v : V} {d : D} (h : ShRep K T H G v d) : ShRep K T H' G' v d := by
  cases d with
  | lst ds =>
    obtain ⟨p, vs, h1, h2, h3⟩ := h
    exact ⟨p, vs, h1, e _ _ h2, h3.mono g⟩
  | dct ds =>
    obtain ⟨p, vs, h1, h2, h3⟩ := h
    exact ⟨p, vs, h1, e _ _ h2, h3.mono g⟩
  | obj c ds =>
    obtain ⟨p, dx, vs, h1, h2, h3, h4⟩ := h
    exact ⟨p, dx, vs, h1, e _ _ h2, h3.mono g, h4⟩
  | non => exact Rep.mono g h
  | bl _ => exact Rep.mono g h
  | int _ => exact Rep.mono g h
  | str _ => exact Rep.mono g h
  | lsk _ => exact Rep.mono g h
  | tup _ => exact Rep.mono g h
theorem Rep.sh {G : Hp} (g : Ex G H) {v : V} {d : D} (h : Rep K T G v d) : ShRep K T H G v d := by
  cases h with
  | lst p vs ds h r => exact ⟨p, vs, rfl, g _ _ h, r⟩
  | dct p vs ds h r => exact ⟨p, vs, rfl, g _ _ h, r⟩
  | obj p dx c vs ds h r z => exact ⟨p, dx, vs, rfl, g _ _ h, r, z⟩
  | non => exact .non
  | bl b => exact .bl b
  | int b => exact .int b
  | str b => exact .str b
  | lsk p vs ds h r => exact .lsk p vs ds h r
  | tup p vs ds h r => exact .tup p vs ds h r
theorem hid_hide {p a : Addr} (h : Hid F ρ σ a) : Hid (F.hide p) ρ σ a := h.elim .inl fun h => .inr (List.mem_cons_of_mem _ h)
theorem vis_hide {p : Addr} : Ex (visB (F.hide p) ρ σ H) (visB F ρ σ H) := fun a o e => by
  by_cases h : Hid (F.hide p) ρ σ a
  · rw [visB_hid h] at e
    cases e
  · have h2 : ¬ Hid F ρ σ a := fun z => h (hid_hide z)
    cases h0 : F.H0 a with
    | none =>
      rw [visB_new h h0] at e
      rw [visB_new h2 h0]
      exact e
    | some x =>
      rw [visB_old h h0] at e
      rw [visB_old h2 h0]
      exact e
theorem new_hide {p : Addr} : Ex (newB (F.hide p) ρ σ H) (newB F ρ σ H) := fun a o e => by
  by_cases h : Hid (F.hide p) ρ σ a
  · rw [newB_hid h] at e
    cases e
  · have h2 : ¬ Hid F ρ σ a := fun z => h (hid_hide z)
    cases h0 : F.H0 a with
    | none =>
      rw [newB_new h h0] at e
      rw [newB_new h2 h0]
      exact e
    | some x =>
      rw [newB_old (F := F.hide p) h0] at e
      cases e
theorem hp_hide {p : Addr} {f : Bool} : Ex (hpB (F.hide p) ρ σ H f) (hpB F ρ σ H f) := by
  cases f with
  | true => exact new_hide
  | false => exact vis_hide
theorem ShRep.rep {p : Addr} {G : Hp} {d : D} (hd : ownb d = true) (h : ShRep K T H G (.ref p) d) (hp : ∀ o, H p = some o → G p = some o) : Rep K T G (.ref p) d := by
  cases d with
  | lst ds =>
    obtain ⟨p', vs, h1, h2, h3⟩ := h
    cases h1
    exact .lst _ _ _ (hp _ h2) h3
  | dct ds =>
    obtain ⟨p', vs, h1, h2, h3⟩ := h
    cases h1
    exact .dct _ _ _ (hp _ h2) h3
  | obj c ds =>
    obtain ⟨p', dx, vs, h1, h2, h3, h4⟩ := h
    cases h1
    exact .obj _ _ _ _ _ (hp _ h2) h3 h4
  | non => cases hd
  | bl _ => cases hd
  | int _ => cases hd
  | str _ => cases hd
  | lsk _ => cases hd
  | tup _ => cases hd
theorem RepV.mono {v : V} {a : Vl} {Hs Hs' : Hp} (s : Ex Hs' Hs) (e : Ex H H') (h : RepV K T F ρ σ v a Hs H) : RepV K T F ρ σ v a Hs' H' := by
  obtain ⟨d, m, f⟩ := a
  cases m with
  | bo =>
    obtain ⟨p, h1, h2, h3, h4⟩ := h
    exact ⟨p, h1, h2, h3, h4.mono e (hp_mono e)⟩
  | pl => exact Rep.mono (hp_mono e) (show Rep K T (hpB F ρ σ H f) v d from h)
  | nw =>
    obtain ⟨p, h1, h2, h3, h4, h5, h6⟩ := h
    exact ⟨p, h1, s.fresh h2, h3, h4, h5, h6.mono e (hp_mono e)⟩
theorem RepV.sh {v : V} {a : Vl} {Hs : Hp} (hH : Ex (visB F ρ σ H) H) (h : RepV K T F ρ σ v a Hs H) : ShRep K T H (hpB F ρ σ H a.f) v a.d := by
  obtain ⟨d, m, f⟩ := a
  cases m with
  | bo =>
    obtain ⟨p, h1, h2, h3, h4⟩ := h
    rw [h1]
    exact h4
  | pl => exact Rep.sh (hp_vis.trans hH) h
  | nw =>
    obtain ⟨p, h1, h2, h3, h4, h5, h6⟩ := h
    rw [h1]
    exact h6.mono (Ex.refl _) hp_hide
theorem RepV.pl {v : V} {a : Vl} {Hs : Hp} (h : RepV K T F ρ σ v a Hs H) (hb : a.m ≠ .bo) : Rep K T (hpB F ρ σ H a.f) v a.d := by
  obtain ⟨d, m, f⟩ := a
  cases m with
  | bo => exact absurd rfl hb
  | pl => exact h
  | nw =>
    obtain ⟨p, h1, h2, h3, h4, h5, h6⟩ := h
    rw [h1]
    refine ShRep.rep h5 (h6.mono (Ex.refl _) hp_hide) fun o ho => ?_
    cases f with
    | true => exact (newB_new h4 h3).trans ho
    | false => exact (visB_new h4 h3).trans ho
theorem ExF.mono' {G G' : Hp} (g : Ex G G') (e : Ex H H') {dd : Option Addr} {c : Nat} {ds : List D} (h : ExF K T G H dd c ds) : ExF K T G' H' dd c ds := by
  rcases h with h | ⟨d, vs, h0, h1, h2, h3, h4⟩
  · exact .inl h
  · exact .inr ⟨d, vs, h0, h1, e _ _ h2, h3.mono g, h4⟩
theorem SlOk.mono (e : Ex H H') {o : Option (Option V)} : ∀ {x : SV}, SlOk K T F ρ σ H o x → SlOk K T F ρ σ H' o x
  | .un, _ => True.intro
  | .sh d f, ⟨v, h1, h2⟩ => ⟨v, h1, h2.mono (hp_mono e)⟩
  | .ow d f, ⟨p, h1, h2, h3, h4, h5⟩ => ⟨p, h1, h2, h3.mono e (hp_mono e), h4, h5⟩
  | .ex _ _, ⟨h1, h2, h3⟩ => ⟨h1, h2, h3.mono' (vis_mono e) e⟩
theorem Fm.mono (e : Ex H H') (R : Fm K T F ρ σ H) : Fm K T F ρ σ H' :=
  ⟨R.ex.trans e, R.sub, R.len, fun i x h => (R.sl i x h).mono e, R.dis, fun a ha => ⟨(R.hid a ha).1, let ⟨o, h⟩ := (R.hid a ha).2; ⟨o, e _ _ h⟩⟩⟩
theorem ExF.mono {G G' : Hp} (g : Ex G G') (e : Ex H H') {dd : Option Addr} {c : Nat} {ds : List D} (h : ExF K T G H dd c ds) : ExF K T G' H' dd c ds := ExF.mono' g e h
theorem Rep.scal {G G' : Hp} {v : V} {d : D} (hd : scalar d = true) (h : Rep K T G v d) : Rep K T G' v d := by
  cases h with
  | non => exact .non
  | bl b => exact .bl b
  | int b => exact .int b
  | str b => exact .str b
  | lst => cases hd
  | lsk => cases hd
  | tup => cases hd
  | dct => cases hd
  | obj => cases hd
end

/-! ### another caught exception in the same tables -/
section
variable {K : PySem.W.Frag} {T T' : Tb} (h1 : T'.ca = T.ca) (h2 : T'.cf = T.cf)
include h1 h2
mutual
theorem Rep.tb {H : Hp} : ∀ {v : V} {d : D}, Rep K T H v d → Rep K T' H v d
  | _, _, .non => .non
  | _, _, .bl b => .bl b
  | _, _, .int i => .int i
  | _, _, .str s => .str s
  | _, _, .lst p vs ds h r => .lst p vs ds h (Reps.tb r)
  | _, _, .lsk p vs ds h r => .lsk p vs ds h (Reps.tb r)
  | _, _, .tup p vs ds h r => .tup p vs ds h (Reps.tb r)
  | _, _, .dct p vs ds h r => .dct p vs ds h (RepK.tb r)
  | _, _, .obj p dx c vs ds h r z => .obj p dx c vs ds (by rw [h1, h2]; exact h) (Reps.tb r) (by rw [h2]; exact z)
theorem Reps.tb {H : Hp} : ∀ {vs : List V} {ds : List D}, Reps K T H vs ds → Reps K T' H vs ds
  | _, _, .nil => .nil
  | _, _, .cons v d vs ds h r => .cons v d vs ds (Rep.tb h) (Reps.tb r)
theorem RepK.tb {H : Hp} : ∀ {vs : List (Key × V)} {ds : List (Key × D)}, RepK K T H vs ds → RepK K T' H vs ds
  | _, _, .nil => .nil
  | _, _, .cons k v d vs ds h r => .cons k v d vs ds (Rep.tb h) (RepK.tb r)
end
theorem ShRep.tb {H G : Hp} {v : V} {d : D} (h : ShRep K T H G v d) : ShRep K T' H G v d := by
  cases d with
  | lst ds =>
    obtain ⟨p, vs, e1, e2, e3⟩ := h
    exact ⟨p, vs, e1, e2, Reps.tb h1 h2 e3⟩
  | dct ds =>
    obtain ⟨p, vs, e1, e2, e3⟩ := h
    exact ⟨p, vs, e1, e2, RepK.tb h1 h2 e3⟩
  | obj c ds =>
    obtain ⟨p, dx, vs, e1, e2, e3, e4⟩ := h
    exact ⟨p, dx, vs, e1, by rw [h1, h2]; exact e2, Reps.tb h1 h2 e3, by rw [h2]; exact e4⟩
  | non => exact Rep.tb h1 h2 (show Rep K T G v .non from h)
  | bl _ => exact Rep.tb h1 h2 (show Rep K T G v (.bl _) from h)
  | int _ => exact Rep.tb h1 h2 (show Rep K T G v (.int _) from h)
  | str _ => exact Rep.tb h1 h2 (show Rep K T G v (.str _) from h)
  | lsk _ => exact Rep.tb h1 h2 (show Rep K T G v (.lsk _) from h)
  | tup _ => exact Rep.tb h1 h2 (show Rep K T G v (.tup _) from h)
theorem ExF.tb {H G : Hp} {dd : Option Addr} {c : Nat} {l : List D} (h : ExF K T G H dd c l) : ExF K T' G H dd c l := by
  rcases h with ⟨e1, e2, e3⟩ | ⟨d, vs, e0, e1, e2, e3, e4⟩
  · exact .inl ⟨by rw [h2]; exact e1, e2, e3⟩
  · exact .inr ⟨d, vs, by rw [h2]; exact e0, e1, by rw [h2]; exact e2, Reps.tb h1 h2 e3, by rw [h2]; exact e4⟩
end
def noEx (ρ : En) : Bool := ρ.all fun x => match x with
  | .ex _ _ => false
  | _ => true
theorem noEx_at {ρ : En} (h : noEx ρ = true) {i : Nat} {c : Nat} {l : List D} : ρ[i]? ≠ some (.ex c l) := fun z => by
  have q := List.all_eq_true.mp h _ (List.mem_of_getElem? z)
  cases q
theorem Fm.tb {K : PySem.W.Frag} {T T' : Tb} (h1 : T'.ca = T.ca) (h2 : T'.cf = T.cf) {F : Fp} {ρ : En} {σ : L2.St} {H : Hp} (hn : noEx ρ = true) (R : Fm K T F ρ σ H) : Fm K T' F ρ σ H := by
  refine ⟨R.ex, R.sub, R.len, fun i x hx => ?_, R.dis, R.hid⟩
  have q := R.sl i x hx
  cases x with
  | un => exact True.intro
  | ex c l => exact absurd hx (noEx_at hn)
  | sh d f =>
    obtain ⟨v, q1, q2⟩ := q
    exact ⟨v, q1, Rep.tb h1 h2 q2⟩
  | ow d f =>
    obtain ⟨p, q1, q2, q3, q4⟩ := q
    exact ⟨p, q1, q2, ShRep.tb h1 h2 q3, q4⟩
end Ev
set_option maxHeartbeats 1000000
/-! Ev2: what an expression's evaluator promises; names, constants, operators. -/
namespace Ev
open PySem L2

structure Cn where
  K : PySem.W.Frag
  T : Tb
  F : Fp
  ρ : En
  σ : L2.St
  W : WX
def Pst (c : Cn) {α β : Type} (rel : β → α → Hp → Hp → Prop) (r : R α) (H : Hp) (Q : β → Hp → Prop) : Prop := match r with
  | .ok a => ∀ v H', Ex H H' → rel v a H H' → Q v H'
  | .exc k ds => ∀ dd H', Ex H H' → ExF c.K c.T (visB c.F c.ρ c.σ H') H' dd k ds → c.W (.ref (c.T.ca k)) dd c.σ H'
  | .bad => False
abbrev relE (c : Cn) : V → Vl → Hp → Hp → Prop := fun v a Hs H => RepV c.K c.T c.F c.ρ c.σ v a Hs H
abbrev relB : Bool → Bool → Hp → Hp → Prop := fun b a _ _ => b = a
inductive RepVs (K : PySem.W.Frag) (T : Tb) (F : Fp) (ρ : En) (σ : L2.St) (Hs H : Hp) : List V → List Vl → Prop
  | nil : RepVs K T F ρ σ Hs H [] []
  | cons (v : V) (a : Vl) (vs : List V) (as : List Vl) : RepV K T F ρ σ v a Hs H → RepVs K T F ρ σ Hs H vs as → RepVs K T F ρ σ Hs H (v :: vs) (a :: as)
abbrev relA (c : Cn) : List V → List Vl → Hp → Hp → Prop := fun vs as Hs H => RepVs c.K c.T c.F c.ρ c.σ Hs H vs as
abbrev Cn.Fm (c : Cn) (H : Hp) : Prop := Ev.Fm c.K c.T c.F c.ρ c.σ H
def StMono {α β : Type} (rel : β → α → Hp → Hp → Prop) : Prop := ∀ v a Hs Hs' H, Ex Hs' Hs → rel v a Hs H → rel v a Hs' H
theorem stE (c : Cn) : StMono (relE c) := fun _ _ _ _ _ e h => RepV.mono e (Ex.refl _) h
theorem stB : StMono relB := fun _ _ _ _ _ _ h => h
theorem RepVs.mono {K : PySem.W.Frag} {T : Tb} {F : Fp} {ρ : En} {σ : L2.St} {Hs Hs' H H' : Hp} (s : Ex Hs' Hs) (e : Ex H H') : ∀ {vs : List V} {as : List Vl}, RepVs K T F ρ σ Hs H vs as → RepVs K T F ρ σ Hs' H' vs as
  | _, _, .nil => .nil
  | _, _, .cons v a vs as h r => .cons v a vs as (h.mono s e) (RepVs.mono s e r)
theorem stA (c : Cn) : StMono (relA c) := fun _ _ _ _ _ e h => RepVs.mono e (Ex.refl _) h
section
variable {c : Cn} {α α' β β' : Type} {rel : β → α → Hp → Hp → Prop} {rel' : β' → α' → Hp → Hp → Prop} {H H1 : Hp} {Q : β → Hp → Prop}
theorem Pst.later {r : R α} (m : StMono rel) (e : Ex H H1) (h : Pst c rel r H Q) : Pst c rel r H1 Q := by
  cases r with
  | ok a => exact fun v H' e' q => h v H' (e.trans e') (m _ _ _ _ _ e q)
  | exc k ds => exact fun dd H' e' q => h dd H' (e.trans e') q
  | bad => exact h
theorem Pst.bind {r : R α} {k : α → R α'} {Q' : β' → Hp → Prop} (m : StMono rel') (h : Pst c rel' (r.bind k) H Q')
    (hk : ∀ a v H1, r = .ok a → Ex H H1 → rel v a H H1 → Pst c rel' (k a) H1 Q' → Q v H1) : Pst c rel r H Q := by
  cases r with
  | ok a => exact fun v H1 e q => hk a v H1 rfl e q (Pst.later m e h)
  | exc k ds => exact h
  | bad => exact h.elim
theorem Pst.ofO {o : Option α} {k : α → R α'} {Q' : β' → Hp → Prop} (h : Pst c rel' (ofO o k) H Q') : ∃ a, o = some a ∧ Pst c rel' (k a) H Q' := by
  cases o with
  | none => exact h.elim
  | some a => exact ⟨a, rfl, h⟩
theorem Pst.ok {a : α} (h : Pst c rel (.ok a) H Q) {v : β} {H' : Hp} (e : Ex H H') (q : rel v a H H') : Q v H' := h v H' e q
end

structure QE (X : Cx) (T : Tb) (W : WX) (e : Expr) (f : En → R Vl) : Prop where
  ex : ∃ t : TE, PE X e t ∧ ∀ F ρ σ H, Fm X.K T F ρ σ H → ∀ Q, Pst ⟨X.K, T, F, ρ, σ, W⟩ (relE ⟨X.K, T, F, ρ, σ, W⟩) (f ρ) H Q → t σ H Q
structure QT (X : Cx) (T : Tb) (W : WX) (e : Expr) (f : En → R Bool) : Prop where
  ex : ∃ t : TT, PT X e t ∧ ∀ F ρ σ H, Fm X.K T F ρ σ H → ∀ Q, Pst ⟨X.K, T, F, ρ, σ, W⟩ relB (f ρ) H Q → t σ H Q
structure QA (X : Cx) (T : Tb) (W : WX) (es : List Expr) (f : En → R (List Vl)) : Prop where
  ex : ∃ t : TA, PA X es t ∧ ∀ F ρ σ H, Fm X.K T F ρ σ H → ∀ Q, Pst ⟨X.K, T, F, ρ, σ, W⟩ (relA ⟨X.K, T, F, ρ, σ, W⟩) (f ρ) H Q → t σ H Q

/-- the one reading of an evaluator -/
def canE (K : PySem.W.Frag) (T : Tb) (W : WX) (f : En → R Vl) : TE := fun σ H Q => ∃ F ρ, Fm K T F ρ σ H ∧ Pst ⟨K, T, F, ρ, σ, W⟩ (relE ⟨K, T, F, ρ, σ, W⟩) (f ρ) H Q
def canT (K : PySem.W.Frag) (T : Tb) (W : WX) (f : En → R Bool) : TT := fun σ H Q => ∃ F ρ, Fm K T F ρ σ H ∧ Pst ⟨K, T, F, ρ, σ, W⟩ relB (f ρ) H Q
theorem QE.can {X : Cx} {T : Tb} {W : WX} {e : Expr} {f : En → R Vl} (h : QE X T W e f) : PE X e (canE X.K T W f) := by
  obtain ⟨t, pe, ht⟩ := h.ex
  exact ⟨fun pins s σ H Q I ⟨F, ρ, Rf, hq⟩ => pe.run pins s σ H Q I (ht F ρ σ H Rf Q hq)⟩
theorem QT.can {X : Cx} {T : Tb} {W : WX} {e : Expr} {f : En → R Bool} (h : QT X T W e f) : PT X e (canT X.K T W f) := by
  obtain ⟨t, pe, ht⟩ := h.ex
  exact ⟨fun pins s σ H Q I ⟨F, ρ, Rf, hq⟩ => pe.run pins s σ H Q I (ht F ρ σ H Rf Q hq)⟩

/-! ### names, constants -/
def pl (d : D) (f : Bool) : R Vl := .ok ⟨d, .pl, f || scalar d⟩
def sc (d : D) : R Vl := .ok ⟨d, .pl, true⟩
def eVar (i : Nat) : En → R Vl := fun ρ => match ρ[i]? with
  | some (.sh d f) => pl d f
  | some (.ow d f) => .ok ⟨d, .bo, f⟩
  | _ => .bad
def eLit (d : D) : En → R Vl := fun _ => sc d
section
variable {X : Cx} {T : Tb} {W : WX}
theorem repV_pl {K : PySem.W.Frag} {F : Fp} {ρ : En} {σ : L2.St} {v : V} {d : D} {f : Bool} {Hs H : Hp} (h : Rep K T (hpB F ρ σ H f) v d) : RepV K T F ρ σ v ⟨d, .pl, f || scalar d⟩ Hs H := by
  show Rep K T (hpB F ρ σ H (f || scalar d)) v d
  cases hs : scalar d with
  | true => exact Rep.scal hs h
  | false => rw [Bool.or_false]; exact h
theorem q_var (i : Nat) {x : Str} {pos : Pos} (hN : X.N[i]? = some x := by rfl) (hv : Vis X.env.scope x := by first | exact Or.inl rfl | exact Or.inr (Or.inl rfl) | exact Or.inr (Or.inr rfl)) (hd : (x == ("__debug__" : Str)) = false := by decide)
    (hcd : (x == ("__classdict__" : Str)) = false := by decide) : QE X T W (.Name x pos) (eVar i) := by
  refine ⟨⟨tVar i, pe_var hN hv hd hcd, fun F ρ σ H R Q h => ?_⟩⟩
  unfold eVar at h
  cases hi : ρ[i]? with
  | none => rw [hi] at h; exact h.elim
  | some x =>
    rw [hi] at h
    have q := R.sl i x hi
    cases x with
    | un => exact h.elim
    | ex _ _ => exact h.elim
    | sh d f =>
      obtain ⟨v, h1, h2⟩ := q
      exact ⟨v, h1, h v H (Ex.refl H) (repV_pl h2)⟩
    | ow d f =>
      obtain ⟨p, h1, h2, h3, h4, h5, h6⟩ := q
      exact ⟨.ref p, h1, h _ H (Ex.refl H) ⟨p, rfl, h2, h5, h3⟩⟩
theorem q_int {i : Int} {j pos} : QE X T W (.Constant (.int i) j pos) (eLit (.int i)) := ⟨⟨_, pe_int, fun F ρ σ H R Q h => h _ H (Ex.refl H) (Rep.int i)⟩⟩
theorem q_bl {b : Bool} {j pos} : QE X T W (.Constant (.bool b) j pos) (eLit (.bl b)) := ⟨⟨_, pe_bl, fun F ρ σ H R Q h => h _ H (Ex.refl H) (Rep.bl b)⟩⟩
theorem q_non {j pos} : QE X T W (.Constant .none j pos) (eLit .non) := ⟨⟨_, pe_non, fun F ρ σ H R Q h => h _ H (Ex.refl H) Rep.non⟩⟩
theorem str_eq (x : Str) : (⟨x.cps.toList.toArray⟩ : Str) = x := by
  cases x
  simp
theorem q_str {x : Str} {j pos} : QE X T W (.Constant (.str x) j pos) (eLit (.str x.cps.toList)) := ⟨⟨_, pe_str, fun F ρ σ H R Q h => h _ H (Ex.refl H) (by
  have q := Rep.str (K := X.K) (T := T) (H := hpB F ρ σ H true) x.cps.toList
  rw [str_eq] at q
  exact q)⟩⟩
/-- the same text, its signs written -/
theorem q_strL (l : List Nat) {x : Str} {j pos} (hx : x.cps.toList = l := by first | rfl | decide +kernel) : QE X T W (.Constant (.str x) j pos) (eLit (.str l)) := hx ▸ q_str
theorem q_globI (i : Int) {x : Str} {pos : Pos} (hg : Gl X x) (hm : ∃ t, X.mg x = some (.int i t)) (hd : (x == ("__debug__" : Str)) = false := by decide) : QE X T W (.Name x pos) (eLit (.int i)) := by
  obtain ⟨t, ht⟩ := hm
  exact ⟨⟨_, pe_glob (v := .int i) hg ht ⟨t, rfl⟩ hd, fun F ρ σ H R Q h => h _ H (Ex.refl H) (Rep.int i)⟩⟩

/-! ### operators -/
/-- an operator by values: r asks no more than that g answers -/
def Snd (K : PySem.W.Frag) (T : Tb) (r : R2) (g : Vl → Vl → R Vl) : Prop := ∀ (F : Fp) (ρ : En) (σ : L2.St) (W : WX) (Hs H : Hp) (vx vy : V) (x y : Vl) (Q : VK), Fm K T F ρ σ H → RepV K T F ρ σ vx x Hs H → RepV K T F ρ σ vy y Hs H →
  Pst ⟨K, T, F, ρ, σ, W⟩ (relE ⟨K, T, F, ρ, σ, W⟩) (g x y) H Q → r vx vy H Q
def e2 (g : Vl → Vl → R Vl) (f1 f2 : En → R Vl) : En → R Vl := fun ρ => (f1 ρ).bind fun x => (f2 ρ).bind fun y => g x y
theorem snd_te {r : R2} {g : Vl → Vl → R Vl} {ta tb : TE} {f1 f2 : En → R Vl} (hs : Snd X.K T r g)
    (ha : ∀ F ρ σ H, Fm X.K T F ρ σ H → ∀ Q, Pst ⟨X.K, T, F, ρ, σ, W⟩ (relE ⟨X.K, T, F, ρ, σ, W⟩) (f1 ρ) H Q → ta σ H Q) (hb : ∀ F ρ σ H, Fm X.K T F ρ σ H → ∀ Q, Pst ⟨X.K, T, F, ρ, σ, W⟩ (relE ⟨X.K, T, F, ρ, σ, W⟩) (f2 ρ) H Q → tb σ H Q) :
    ∀ F ρ σ H, Fm X.K T F ρ σ H → ∀ Q, Pst ⟨X.K, T, F, ρ, σ, W⟩ (relE ⟨X.K, T, F, ρ, σ, W⟩) (e2 g f1 f2 ρ) H Q → tOp r ta tb σ H Q := fun F ρ σ H Rf Q h => by
  refine ha F ρ σ H Rf _ (h.bind (stE _) fun x vx H1 _ e1 q1 h1 => ?_)
  refine hb F ρ σ H1 (Rf.mono e1) _ (h1.bind (stE _) fun y vy H2 _ e2 q2 h2 => ?_)
  exact hs F ρ σ W H H2 vx vy x y Q (Rf.mono (e1.trans e2)) (RepV.mono (Ex.refl _) e2 q1) (RepV.mono e1 (Ex.refl _) q2) h2
variable {a b : Expr} {f1 f2 : En → R Vl} {pos : Pos}
theorem q_op {op : Operator} {r : R2} {g : Vl → Vl → R Vl} (ho : OpR X (binaryOp op) r) (hs : Snd X.K T r g) (ha : QE X T W a f1) (hb : QE X T W b f2) : QE X T W (.BinOp a op b pos) (e2 g f1 f2) := by
  obtain ⟨ta, pa, ha⟩ := ha.ex
  obtain ⟨tb, pb, hb⟩ := hb.ex
  exact ⟨⟨_, pe_op ho pa pb, snd_te hs ha hb⟩⟩
/-- a comparison by values -/
def SndC (K : PySem.W.Frag) (T : Tb) (r : R2) (g : Vl → Vl → Option Bool) : Prop := ∀ (F : Fp) (ρ : En) (σ : L2.St) (Hs H : Hp) (vx vy : V) (x y : Vl) (Q : VK) (k : Bool), Fm K T F ρ σ H → RepV K T F ρ σ vx x Hs H → RepV K T F ρ σ vy y Hs H →
  g x y = some k → (∀ H', Ex H H' → Q (.bl k) H') → r vx vy H Q
def gC (g : Vl → Vl → Option Bool) : Vl → Vl → R Vl := fun x y => ofO (g x y) fun k => sc (.bl k)
theorem SndC.snd {K : PySem.W.Frag} {r : R2} {g : Vl → Vl → Option Bool} (h : SndC K T r g) : Snd K T r (gC g) := fun F ρ σ W Hs H vx vy x y Q Rf q1 q2 hp => by
  obtain ⟨k, e, hk⟩ := Pst.ofO hp
  exact h F ρ σ Hs H vx vy x y Q k Rf q1 q2 e fun H' e' => hk _ H' e' (Rep.bl k)
theorem q_cmp {op : CmpOp} {r : R2} {g : Vl → Vl → Option Bool} (ho : OpR X (compareOp op) r) (hs : SndC X.K T r g) (ha : QE X T W a f1) (hb : QE X T W b f2) (hm : behindInMarks op b = false := by first | exact nomark _ | rfl) : QE X T W (.Compare a [op] [b] pos) (e2 (gC g) f1 f2) := by
  obtain ⟨ta, pa, ha⟩ := ha.ex
  obtain ⟨tb, pb, hb⟩ := hb.ex
  exact ⟨⟨_, pe_cmpR ho pa pb hm, snd_te hs.snd ha hb⟩⟩
def t2 (g : Vl → Vl → Option Bool) (f1 f2 : En → R Vl) : En → R Bool := fun ρ => (f1 ρ).bind fun x => (f2 ρ).bind fun y => ofO (g x y) .ok
theorem qt_cmp {op : CmpOp} {r : R2} {g : Vl → Vl → Option Bool} (ho : OpR X (compareOp op) r) (hs : SndC X.K T r g) (ha : QE X T W a f1) (hb : QE X T W b f2) (hm : behindInMarks op b = false := by first | exact nomark _ | rfl) : QT X T W (.Compare a [op] [b] pos) (t2 g f1 f2) := by
  obtain ⟨ta, pa, ha⟩ := ha.ex
  obtain ⟨tb, pb, hb⟩ := hb.ex
  refine ⟨⟨_, pt_cmpR ho pa pb hm, fun F ρ σ H Rf Q h => ?_⟩⟩
  refine ha F ρ σ H Rf _ (h.bind stB fun x vx H1 _ e1 q1 h1 => ?_)
  refine hb F ρ σ H1 (Rf.mono e1) _ (h1.bind stB fun y vy H2 _ e2 q2 h2 => ?_)
  obtain ⟨k, e, hk⟩ := Pst.ofO h2
  exact hs F ρ σ H H2 vx vy x y _ k (Rf.mono (e1.trans e2)) (RepV.mono (Ex.refl _) e2 q1) (RepV.mono e1 (Ex.refl _) q2) e fun H' e' => ⟨k, rfl, hk k H' e' rfl⟩
/-- x <op> y <op> z -/
def t3 (g g' : Vl → Vl → Option Bool) (f1 f2 f3 : En → R Vl) : En → R Bool := fun ρ => (f1 ρ).bind fun x => (f2 ρ).bind fun y => ofO (g x y) fun k => if k then (f3 ρ).bind fun z => ofO (g' y z) .ok else .ok false

/-! ### tests -/
def bl? (a : Vl) : Option Bool := match a.d with
  | .bl b => some b
  | _ => none
theorem bl?_rep {K : PySem.W.Frag} {F : Fp} {ρ : En} {σ : L2.St} {v : V} {a : Vl} {Hs H : Hp} {b : Bool} (hH : Ex (visB F ρ σ H) H) (h : RepV K T F ρ σ v a Hs H) (e : bl? a = some b) : v = .bl b := by
  have q := h.sh hH
  obtain ⟨d, m, f⟩ := a
  cases d with
  | bl c =>
    cases e
    cases q
    rfl
  | _ => cases e
def tVal (f : En → R Vl) : En → R Bool := fun ρ => (f ρ).bind fun x => ofO (bl? x) .ok
theorem qt_val {f : En → R Vl} (ha : QE X T W a f) (he : ∀ whole, isTrue a X.env whole = (do let v ← whole; standAt a.pos; holding [v] (truthy v)) := by intro _; rfl) : QT X T W a (tVal f) := by
  obtain ⟨ta, pa, ha⟩ := ha.ex
  refine ⟨⟨_, pt_val pa he, fun F ρ σ H Rf Q h => ?_⟩⟩
  refine ha F ρ σ H Rf _ (h.bind stB fun x vx H1 _ e1 q1 h1 => ?_)
  obtain ⟨k, e, hk⟩ := Pst.ofO h1
  exact ⟨k, bl?_rep (Rf.mono e1).vH q1 e, hk k H1 (Ex.refl _) rfl⟩
def tNot' (f : En → R Bool) : En → R Bool := fun ρ => (f ρ).bind fun b => .ok (!b)
theorem qt_not {f : En → R Bool} (ha : QT X T W a f) : QT X T W (.UnaryOp .Not a pos) (tNot' f) := by
  obtain ⟨ta, pa, ha⟩ := ha.ex
  refine ⟨⟨_, pt_not pa, fun F ρ σ H Rf Q h => ?_⟩⟩
  refine ha F ρ σ H Rf _ (h.bind stB fun x vx H1 _ e1 q1 h1 => ?_)
  rw [q1]
  exact h1 _ H1 (Ex.refl _) rfl
def tAnd' (f g : En → R Bool) : En → R Bool := fun ρ => (f ρ).bind fun b => if b then g ρ else .ok false
def tOr' (f g : En → R Bool) : En → R Bool := fun ρ => (f ρ).bind fun b => if b then .ok true else g ρ
structure QW (X : Cx) (T : Tb) (W : WX) (e : Expr) (f : En → R Bool) : Prop where
  ex : ∃ t : TT, PW X e t ∧ ∀ F ρ σ H, Fm X.K T F ρ σ H → ∀ Q, Pst ⟨X.K, T, F, ρ, σ, W⟩ relB (f ρ) H Q → t σ H Q
theorem QW.t {f : En → R Bool} (h : QW X T W a f) : QT X T W a f := by
  obtain ⟨ta, pa, ha⟩ := h.ex
  exact ⟨⟨ta, pa.pt, ha⟩⟩
variable {rest : List Expr} {g1 g2 : En → R Bool}
theorem qw_and1 (ha : QT X T W a g1) : QW X T W (.BoolOp .And [a] pos) g1 := by
  obtain ⟨ta, pa, ha⟩ := ha.ex
  exact ⟨⟨ta, pw_and1 pa, ha⟩⟩
theorem qw_or1 (ha : QT X T W a g1) : QW X T W (.BoolOp .Or [a] pos) g1 := by
  obtain ⟨ta, pa, ha⟩ := ha.ex
  exact ⟨⟨ta, pw_or1 pa, ha⟩⟩
theorem qw_and (ha : QT X T W a g1) (hb : QW X T W (.BoolOp .And (b :: rest) pos) g2) : QW X T W (.BoolOp .And (a :: b :: rest) pos) (tAnd' g1 g2) := by
  obtain ⟨ta, pa, ha⟩ := ha.ex
  obtain ⟨tb, pb, hb⟩ := hb.ex
  refine ⟨⟨_, pw_and pa pb, fun F ρ σ H Rf Q h => ?_⟩⟩
  refine ha F ρ σ H Rf _ (h.bind stB fun x vx H1 _ e1 q1 h1 => ?_)
  rw [q1]
  cases x with
  | true => exact hb F ρ σ H1 (Rf.mono e1) _ h1
  | false => exact h1 _ H1 (Ex.refl _) rfl
theorem qw_or (ha : QT X T W a g1) (hb : QW X T W (.BoolOp .Or (b :: rest) pos) g2) : QW X T W (.BoolOp .Or (a :: b :: rest) pos) (tOr' g1 g2) := by
  obtain ⟨ta, pa, ha⟩ := ha.ex
  obtain ⟨tb, pb, hb⟩ := hb.ex
  refine ⟨⟨_, pw_or pa pb, fun F ρ σ H Rf Q h => ?_⟩⟩
  refine ha F ρ σ H Rf _ (h.bind stB fun x vx H1 _ e1 q1 h1 => ?_)
  rw [q1]
  cases x with
  | true => exact h1 _ H1 (Ex.refl _) rfl
  | false => exact hb F ρ σ H1 (Rf.mono e1) _ h1
/-- .. as values -/
def vAnd (f g : En → R Vl) : En → R Vl := fun ρ => (f ρ).bind fun x => ofO (bl? x) fun b => if b then g ρ else sc (.bl false)
def vOr (f g : En → R Vl) : En → R Vl := fun ρ => (f ρ).bind fun x => ofO (bl? x) fun b => if b then sc (.bl true) else g ρ
def vNot (f : En → R Vl) : En → R Vl := fun ρ => (f ρ).bind fun x => ofO (bl? x) fun b => sc (.bl (!b))
theorem q_one {op} (ha : QE X T W a f1) : QE X T W (.BoolOp op [a] pos) f1 := by
  obtain ⟨ta, pa, ha⟩ := ha.ex
  exact ⟨⟨ta, pe_one pa, ha⟩⟩
theorem q_and (ha : QE X T W a f1) (hb : QE X T W (.BoolOp .And (b :: rest) pos) f2) : QE X T W (.BoolOp .And (a :: b :: rest) pos) (vAnd f1 f2) := by
  obtain ⟨ta, pa, ha⟩ := ha.ex
  obtain ⟨tb, pb, hb⟩ := hb.ex
  refine ⟨⟨_, pe_and pa pb, fun F ρ σ H Rf Q h => ?_⟩⟩
  refine ha F ρ σ H Rf _ (h.bind (stE _) fun x vx H1 _ e1 q1 h1 => ?_)
  obtain ⟨k, e, hk⟩ := Pst.ofO h1
  refine ⟨k, bl?_rep (Rf.mono e1).vH q1 e, ?_⟩
  cases k with
  | true => exact hb F ρ σ H1 (Rf.mono e1) _ hk
  | false => exact hk _ H1 (Ex.refl _) (Rep.bl false)
theorem q_or (ha : QE X T W a f1) (hb : QE X T W (.BoolOp .Or (b :: rest) pos) f2) : QE X T W (.BoolOp .Or (a :: b :: rest) pos) (vOr f1 f2) := by
  obtain ⟨ta, pa, ha⟩ := ha.ex
  obtain ⟨tb, pb, hb⟩ := hb.ex
  refine ⟨⟨_, pe_or pa pb, fun F ρ σ H Rf Q h => ?_⟩⟩
  refine ha F ρ σ H Rf _ (h.bind (stE _) fun x vx H1 _ e1 q1 h1 => ?_)
  obtain ⟨k, e, hk⟩ := Pst.ofO h1
  refine ⟨k, bl?_rep (Rf.mono e1).vH q1 e, ?_⟩
  cases k with
  | true => exact hk _ H1 (Ex.refl _) (Rep.bl true)
  | false => exact hb F ρ σ H1 (Rf.mono e1) _ hk
theorem q_not (ha : QE X T W a f1) : QE X T W (.UnaryOp .Not a pos) (vNot f1) := by
  obtain ⟨ta, pa, ha⟩ := ha.ex
  refine ⟨⟨_, pe_not pa, fun F ρ σ H Rf Q h => ?_⟩⟩
  refine ha F ρ σ H Rf _ (h.bind (stE _) fun x vx H1 _ e1 q1 h1 => ?_)
  obtain ⟨k, e, hk⟩ := Pst.ofO h1
  exact ⟨k, bl?_rep (Rf.mono e1).vH q1 e, hk _ H1 (Ex.refl _) (Rep.bl _)⟩
def eIf (g : En → R Bool) (f1 f2 : En → R Vl) : En → R Vl := fun ρ => (g ρ).bind fun b => if b then f1 ρ else f2 ρ
theorem q_if {c : Expr} (hc : QT X T W c g1) (ha : QE X T W a f1) (hb : QE X T W b f2) : QE X T W (.IfExp c a b pos) (eIf g1 f1 f2) := by
  obtain ⟨tc, pc, hc⟩ := hc.ex
  obtain ⟨ta, pa, ha⟩ := ha.ex
  obtain ⟨tb, pb, hb⟩ := hb.ex
  refine ⟨⟨_, pe_ifExp pc pa pb, fun F ρ σ H Rf Q h => ?_⟩⟩
  refine hc F ρ σ H Rf _ (h.bind (stE _) fun x vx H1 _ e1 q1 h1 => ?_)
  rw [q1]
  cases x with
  | true => exact ha F ρ σ H1 (Rf.mono e1) _ h1
  | false => exact hb F ρ σ H1 (Rf.mono e1) _ h1
end

/-! ### argument lists, displays -/
section
variable {X : Cx} {T : Tb} {W : WX} {e : Expr} {es : List Expr} {f : En → R Vl} {fs : En → R (List Vl)} {pos : Pos}
def aNil : En → R (List Vl) := fun _ => .ok []
def aCons (f : En → R Vl) (fs : En → R (List Vl)) : En → R (List Vl) := fun ρ => (f ρ).bind fun x => (fs ρ).bind fun xs => .ok (x :: xs)
theorem qa_nil : QA X T W [] aNil := ⟨⟨tNil, pa_nil, fun F ρ σ H Rf Q h => h [] H (Ex.refl _) .nil⟩⟩
theorem qa_cons (ha : QE X T W e f) (hr : QA X T W es fs) (hs : starEach (e :: es) X.env = (false, eval e X.env) :: starEach es X.env := by rfl) : QA X T W (e :: es) (aCons f fs) := by
  obtain ⟨ta, pa, ha⟩ := ha.ex
  obtain ⟨tr, pr, hr⟩ := hr.ex
  refine ⟨⟨_, pa_cons pa pr hs, fun F ρ σ H Rf Q h => ?_⟩⟩
  refine ha F ρ σ H Rf _ (h.bind (stA _) fun x vx H1 ef e1 q1 h1 => ?_)
  refine hr F ρ σ H1 (Rf.mono e1) _ (h1.bind (stA _) fun xs vs H2 efs e2 q2 h2 => ?_)
  unfold aCons at h
  rw [ef, R.bind_ok, efs, R.bind_ok] at h
  exact h _ H2 (e1.trans e2) (.cons _ _ _ _ (RepV.mono (Ex.refl _) e2 q1) (RepVs.mono e1 (Ex.refl _) q2))
/-- none borrowed: their trees, all new -/
def plain : List Vl → Option (List D × Bool)
  | [] => some ([], true)
  | a :: as => match a.m with
    | .bo => none
    | _ => (plain as).map fun p => (a.d :: p.1, a.f && p.2)
theorem plain_reps {K : PySem.W.Frag} {F : Fp} {ρ : En} {σ : L2.St} {Hs H : Hp} : ∀ {as : List Vl} {vs : List V} {ds : List D} {f : Bool}, RepVs K T F ρ σ Hs H vs as → plain as = some (ds, f) → Reps K T (hpB F ρ σ H f) vs ds
  | [], _, _, _, .nil, e => by
    cases e
    exact .nil
  | a :: as, _, ds, f, .cons v _ vs _ h r, e => by
    unfold plain at e
    have key : a.m ≠ .bo ∧ ∃ p, plain as = some p ∧ ds = a.d :: p.1 ∧ f = (a.f && p.2) := by
      cases hm : a.m with
      | bo => rw [hm] at e; cases e
      | pl =>
        rw [hm] at e
        obtain ⟨p, h1, h2⟩ := Option.map_eq_some_iff.mp e
        cases h2
        exact ⟨by simp, p, h1, rfl, rfl⟩
      | nw =>
        rw [hm] at e
        obtain ⟨p, h1, h2⟩ := Option.map_eq_some_iff.mp e
        cases h2
        exact ⟨by simp, p, h1, rfl, rfl⟩
    obtain ⟨hb, ⟨es, g⟩, h1, h2, h3⟩ := key
    subst h2 h3
    have ih := plain_reps r h1
    refine .cons _ _ _ _ ((h.pl hb).mono (hp_le fun z => ?_)) (ih.mono (hp_le fun z => ?_))
    · exact (Bool.and_eq_true_iff.mp z).1
    · exact (Bool.and_eq_true_iff.mp z).2
def eTup (fs : En → R (List Vl)) : En → R Vl := fun ρ => (fs ρ).bind fun as => ofO (plain as) fun p => if p.1.length ≤ 1000000 then .ok ⟨.tup p.1, .pl, p.2⟩ else .bad
def eLst (fs : En → R (List Vl)) : En → R Vl := fun ρ => (fs ρ).bind fun as => ofO (plain as) fun p => if p.1.length ≤ 1000000 then .ok ⟨.lst p.1, .nw, p.2⟩ else .bad
theorem line_of {n : Nat} (h : n ≤ 1000000) : n ≤ sizeLine := Nat.le_trans h (by rw [sizeLine_eq]; decide)
theorem lt_line {n : Nat} (h : n < 1000000) : n < sizeLine := Nat.lt_of_lt_of_le h (by rw [sizeLine_eq]; decide)
/-- a new address is not hidden, not old -/
theorem Fm.nohid {K : PySem.W.Frag} {F : Fp} {ρ : En} {σ : L2.St} {H : Hp} (Rf : Fm K T F ρ σ H) {p : Addr} (hp : H p = none) : ¬ Hid F ρ σ p ∧ F.H0 p = none := by
  refine ⟨fun h => ?_, Rf.ex.fresh hp⟩
  rcases h with ⟨i, d, f, h1, h2⟩ | h
  · obtain ⟨p', q1, q2, q3, q4, q5, q6⟩ := Rf.sl i _ h1
    rw [h2] at q1
    cases q1
    cases d with
    | lst ds => obtain ⟨_, vs, z, h3, _⟩ := q3; cases z; rw [hp] at h3; cases h3
    | dct ds => obtain ⟨_, vs, z, h3, _⟩ := q3; cases z; rw [hp] at h3; cases h3
    | obj c ds => obtain ⟨_, dx, vs, z, h3, _⟩ := q3; cases z; rw [hp] at h3; cases h3
    | non => cases q5
    | bl _ => cases q5
    | int _ => cases q5
    | str _ => cases q5
    | lsk _ => cases q5
    | tup _ => cases q5
  · obtain ⟨_, o, h3⟩ := Rf.hid p h
    rw [hp] at h3
    cases h3
end
end Ev
set_option maxHeartbeats 1000000
/-! Ev3: displays, arithmetic, comparisons, subscripts. -/
namespace Ev
open PySem L2

section
variable {K : PySem.W.Frag} {T : Tb} {F : Fp} {ρ : En} {σ : L2.St} {H H1 H' Hs : Hp}
/-- what is seen ahead of a new object at p is seen with p hidden -/
theorem hp_born (Rf : Fm K T F ρ σ H1) {p : Addr} (hp : H1 p = none) (e : Ex H1 H') {f : Bool} : Ex (hpB F ρ σ H1 f) (hpB (F.hide p) ρ σ H' f) := by
  obtain ⟨nh, h0⟩ := Rf.nohid hp
  have key : ∀ {a : Addr}, a ≠ p → Hid (F.hide p) ρ σ a → Hid F ρ σ a := fun {a} ne h => h.elim .inl fun h => by
    rcases List.mem_cons.mp h with h | h
    · exact absurd h ne
    · exact .inr h
  have np : ∀ {f : Bool} {a : Addr} {o : HO}, hpB F ρ σ H1 f a = some o → a ≠ p := fun {f a o} q z => by
    have q2 := Rf.hH _ _ q
    rw [z, hp] at q2
    cases q2
  intro a o q
  have ne := np q
  cases f with
  | true =>
    have q : newB F ρ σ H1 a = some o := q
    show newB (F.hide p) ρ σ H' a = some o
    by_cases h : Hid F ρ σ a
    · rw [newB_hid h] at q
      cases q
    · have h2 : ¬ Hid (F.hide p) ρ σ a := fun z => h (key ne z)
      cases h0 : F.H0 a with
      | none =>
        rw [newB_new h h0] at q
        rw [newB_new h2 h0]
        exact e _ _ q
      | some x =>
        rw [newB_old h0] at q
        cases q
  | false =>
    have q : visB F ρ σ H1 a = some o := q
    show visB (F.hide p) ρ σ H' a = some o
    by_cases h : Hid F ρ σ a
    · rw [visB_hid h] at q
      cases q
    · have h2 : ¬ Hid (F.hide p) ρ σ a := fun z => h (key ne z)
      cases h0 : F.H0 a with
      | none =>
        rw [visB_new h h0] at q
        rw [visB_new h2 h0]
        exact e _ _ q
      | some x =>
        rw [visB_old h h0] at q
        rw [visB_old h2 h0]
        exact q
/-- a list is born -/
theorem born_lst (Rf : Fm K T F ρ σ H1) {p : Addr} (hp : H1 p = none) (e : Ex H1 H') {vs : List V} {ds : List D} {f : Bool} (ho : H' p = some (.lst vs)) (r : Reps K T (hpB F ρ σ H1 f) vs ds) (s : Ex Hs H1) :
    RepV K T F ρ σ (.ref p) ⟨.lst ds, .nw, f⟩ Hs H' :=
  ⟨p, rfl, s.fresh hp, (Rf.nohid hp).2, (Rf.nohid hp).1, rfl, p, vs, rfl, ho, r.mono (hp_born Rf hp e)⟩
/-- a tuple is born -/
theorem born_tup (Rf : Fm K T F ρ σ H1) {p : Addr} (hp : H1 p = none) (e : Ex H1 H') {vs : List V} {ds : List D} {f : Bool} (ho : H' p = some (.tup vs)) (r : Reps K T (hpB F ρ σ H1 f) vs ds) :
    RepV K T F ρ σ (.ref p) ⟨.tup ds, .pl, f⟩ Hs H' := by
  have q : hpB F ρ σ H' f p = some (.tup vs) := by
    obtain ⟨nh, h0⟩ := Rf.nohid hp
    cases f with
    | true => exact (newB_new nh h0).trans ho
    | false => exact (visB_new nh h0).trans ho
  exact Rep.tup _ _ _ (SqT.of q) (r.mono (hp_mono e))
/-- a list, a tuple, however it is held -/
def seq? : D → Option (List D)
  | .lst ds => some ds
  | .lsk ds => some ds
  | _ => none
theorem seq_of (Rf : Fm K T F ρ σ H) {v : V} {a : Vl} {ds : List D} (h : RepV K T F ρ σ v a Hs H) (e : seq? a.d = some ds) : ∃ p vs, v = .ref p ∧ SqL K H p vs ∧ Reps K T (hpB F ρ σ H a.f) vs ds := by
  have q := h.sh Rf.vH
  obtain ⟨d, m, f⟩ := a
  cases d with
  | lst l =>
    cases e
    obtain ⟨p, vs, h1, h2, h3⟩ := q
    exact ⟨p, vs, h1, SqL.of h2, h3⟩
  | lsk l =>
    cases e
    cases (show Rep K T (hpB F ρ σ H f) v (.lsk ds) from q) with
    | lsk p vs _ h1 h2 => exact ⟨p, vs, rfl, Rf.hH.sqL h1, h2⟩
  | _ => cases e
theorem lst_of (Rf : Fm K T F ρ σ H) {v : V} {a : Vl} {ds : List D} (h : RepV K T F ρ σ v a Hs H) (e : a.d = .lst ds) : ∃ p vs, v = .ref p ∧ H p = some (.lst vs) ∧ Reps K T (hpB F ρ σ H a.f) vs ds := by
  have q := h.sh Rf.vH
  obtain ⟨d, m, f⟩ := a
  have e : d = .lst ds := e
  subst e
  exact q
theorem tup_of (Rf : Fm K T F ρ σ H) {v : V} {a : Vl} {ds : List D} (h : RepV K T F ρ σ v a Hs H) (e : a.d = .tup ds) : ∃ p vs, v = .ref p ∧ SqT K H p vs ∧ Reps K T (hpB F ρ σ H a.f) vs ds := by
  have q := h.sh Rf.vH
  obtain ⟨d, m, f⟩ := a
  have e : d = .tup ds := e
  subst e
  cases (show Rep K T (hpB F ρ σ H f) v (.tup ds) from q) with
  | tup p vs _ h1 h2 => exact ⟨p, vs, rfl, Rf.hH.sqT h1, h2⟩
theorem int_of (Rf : Fm K T F ρ σ H) {v : V} {a : Vl} {i : Int} (h : RepV K T F ρ σ v a Hs H) (e : a.d = .int i) : v = .int i := by
  have q := h.sh Rf.vH
  rw [e] at q
  cases (show Rep K T _ v (.int i) from q)
  rfl
theorem bl_of (Rf : Fm K T F ρ σ H) {v : V} {a : Vl} {i : Bool} (h : RepV K T F ρ σ v a Hs H) (e : a.d = .bl i) : v = .bl i := by
  have q := h.sh Rf.vH
  rw [e] at q
  cases (show Rep K T _ v (.bl i) from q)
  rfl
theorem str_of (Rf : Fm K T F ρ σ H) {v : V} {a : Vl} {l : List Nat} (h : RepV K T F ρ σ v a Hs H) (e : a.d = .str l) : v = .str ⟨l.toArray⟩ := by
  have q := h.sh Rf.vH
  rw [e] at q
  cases (show Rep K T _ v (.str l) from q)
  rfl
theorem non_of (Rf : Fm K T F ρ σ H) {v : V} {a : Vl} (h : RepV K T F ρ σ v a Hs H) (e : a.d = .non) : v = .non := by
  have q := h.sh Rf.vH
  rw [e] at q
  cases (show Rep K T _ v .non from q)
  rfl
end

/-! ### displays -/
section
variable {X : Cx} {T : Tb} {W : WX} {es : List Expr} {fs : En → R (List Vl)} {pos : Pos}
theorem q_tup {x1} (ha : QA X T W es fs) : QE X T W (.Tuple es x1 pos) (eTup fs) := by
  obtain ⟨ta, pa, ha⟩ := ha.ex
  refine ⟨⟨_, pe_tup pa, fun F ρ σ H Rf Q h => ?_⟩⟩
  refine ha F ρ σ H Rf _ (h.bind (stE _) fun as vs H1 _ e1 q1 h1 => ?_)
  obtain ⟨⟨ds, f⟩, hp, h2⟩ := Pst.ofO h1
  have r := plain_reps q1 hp
  have hl : ds.length ≤ 1000000 := Decidable.byContradiction fun z => by
    have z' : ¬ ((ds, f) : List D × Bool).1.length ≤ 1000000 := z
    rw [if_neg z'] at h2
    exact h2
  have hl' : ((ds, f) : List D × Bool).1.length ≤ 1000000 := hl
  rw [if_pos hl'] at h2
  refine ⟨line_of (by rw [r.length]; exact hl), fun p hp => h2 _ _ (Ex.new hp) (born_tup (Rf.mono e1) hp (Ex.new hp) upd_same r)⟩
theorem q_lst (ha : QA X T W es fs) : QE X T W (.List es pos) (eLst fs) := by
  obtain ⟨ta, pa, ha⟩ := ha.ex
  refine ⟨⟨_, pe_lst pa, fun F ρ σ H Rf Q h => ?_⟩⟩
  refine ha F ρ σ H Rf _ (h.bind (stE _) fun as vs H1 _ e1 q1 h1 => ?_)
  obtain ⟨⟨ds, f⟩, hp, h2⟩ := Pst.ofO h1
  have r := plain_reps q1 hp
  have hl : ds.length ≤ 1000000 := Decidable.byContradiction fun z => by
    have z' : ¬ ((ds, f) : List D × Bool).1.length ≤ 1000000 := z
    rw [if_neg z'] at h2
    exact h2
  have hl' : ((ds, f) : List D × Bool).1.length ≤ 1000000 := hl
  rw [if_pos hl'] at h2
  exact ⟨line_of (by rw [r.length]; exact hl), fun p hp => h2 _ _ (Ex.new hp) (born_lst (Rf.mono e1) hp (Ex.new hp) upd_same r (Ex.refl _))⟩
end

/-! ### arithmetic -/
def iop (g : Int → Int → Option Int) : Vl → Vl → R Vl := fun x y => match x.d, y.d with
  | .int i, .int j => ofO (g i j) fun k => sc (.int k)
  | _, _ => .bad
theorem snd_I {K : PySem.W.Frag} {T : Tb} {C : Int → Int → Prop} {g : Int → Int → Int} {h : Int → Int → Option Int} (hc : ∀ i j k, h i j = some k → C i j ∧ k = g i j) : Snd K T (rI C fun i j => .int (g i j)) (iop h) := fun F ρ σ W Hs H vx vy x y Q Rf q1 q2 hp => by
  unfold iop at hp
  split at hp
  · rename_i i j e1 e2
    obtain ⟨k, e, hk⟩ := Pst.ofO hp
    obtain ⟨c, rfl⟩ := hc i j k e
    exact ⟨i, j, int_of Rf q1 e1, int_of Rf q2 e2, c, hk _ H (Ex.refl _) (Rep.int _)⟩
  · exact hp.elim
theorem snd_I0 {K : PySem.W.Frag} {T : Tb} {g : Int → Int → Int} : Snd K T (rI0 fun i j => .int (g i j)) (iop fun i j => some (g i j)) := fun F ρ σ W Hs H vx vy x y Q Rf q1 q2 hp => by
  unfold iop at hp
  split at hp
  · rename_i i j e1 e2
    exact ⟨i, j, int_of Rf q1 e1, int_of Rf q2 e2, hp _ H (Ex.refl _) (Rep.int _)⟩
  · exact hp.elim
def mul? (i j : Int) : Option Int := if i.natAbs < 18446744073709551616 ∨ j.natAbs < 18446744073709551616 then some (i * j) else none
def fdiv? (i j : Int) : Option Int := if 0 < j ∧ j < 1073741824 then some (i / j) else none
def mod? (i j : Int) : Option Int := if 0 < j then some (i % j) else none
def pow? (i j : Int) : Option Int := if 0 ≤ j ∧ j ≤ 1000000 ∧ i.natAbs < 18446744073709551616 then some (i ^ j.toNat) else none
def gAddI := iop fun i j => some (i + j)
def gSubI := iop fun i j => some (i - j)
def gMulI := iop mul?
def gDivI := iop fdiv?
def gModI := iop mod?
def gPowI := iop pow?
section
variable {X : Cx} {T : Tb} {W : WX} {a b : Expr} {f1 f2 : En → R Vl} {pos : Pos}
theorem q_addI (ha : QE X T W a f1) (hb : QE X T W b f2) : QE X T W (.BinOp a .Add b pos) (e2 gAddI f1 f2) := q_op op_add snd_I0 ha hb
theorem q_subI (ha : QE X T W a f1) (hb : QE X T W b f2) : QE X T W (.BinOp a .Sub b pos) (e2 gSubI f1 f2) := q_op op_sub snd_I0 ha hb
theorem q_mulI (ha : QE X T W a f1) (hb : QE X T W b f2) : QE X T W (.BinOp a .Mult b pos) (e2 gMulI f1 f2) := q_op op_mul (snd_I fun i j k e => by
  unfold mul? at e
  split at e
  · rename_i h
    cases e
    refine ⟨?_, rfl⟩
    rcases h with h | h
    · exact .inl ⟨by omega, by omega⟩
    · exact .inr ⟨by omega, by omega⟩
  · cases e) ha hb
theorem q_divI (ha : QE X T W a f1) (hb : QE X T W b f2) : QE X T W (.BinOp a .FloorDiv b pos) (e2 gDivI f1 f2) := q_op op_fdiv (snd_I fun i j k e => by
  unfold fdiv? at e
  split at e
  · rename_i h
    cases e
    exact ⟨h, rfl⟩
  · cases e) ha hb
theorem q_modI (ha : QE X T W a f1) (hb : QE X T W b f2) : QE X T W (.BinOp a .Mod b pos) (e2 gModI f1 f2) := q_op op_mod (snd_I fun i j k e => by
  unfold mod? at e
  split at e
  · rename_i h
    cases e
    exact ⟨h, rfl⟩
  · cases e) ha hb
theorem q_powI (ha : QE X T W a f1) (hb : QE X T W b f2) : QE X T W (.BinOp a .Pow b pos) (e2 gPowI f1 f2) := q_op op_pow (snd_I fun i j k e => by
  unfold pow? at e
  split at e
  · rename_i h
    cases e
    exact ⟨⟨h.1, h.2.1, by omega⟩, rfl⟩
  · cases e) ha hb
def eNeg (f : En → R Vl) : En → R Vl := fun ρ => (f ρ).bind fun x => match x.d with
  | .int i => sc (.int (-i))
  | _ => .bad
theorem q_neg (ha : QE X T W a f1) : QE X T W (.UnaryOp .USub a pos) (eNeg f1) := by
  obtain ⟨ta, pa, ha⟩ := ha.ex
  refine ⟨⟨_, pe_un un_neg pa, fun F ρ σ H Rf Q h => ?_⟩⟩
  refine ha F ρ σ H Rf _ (h.bind (stE _) fun x vx H1 _ e1 q1 h1 => ?_)
  split at h1
  · rename_i i e
    exact ⟨i, int_of (Rf.mono e1) q1 e, h1 _ H1 (Ex.refl _) (Rep.int _)⟩
  · exact h1.elim
/-- texts: x + y; text * int -/
def gAddS : Vl → Vl → R Vl := fun x y => match x.d, y.d with
  | .str i, .str j => if i.length + j.length ≤ 1000000 then sc (.str (i ++ j)) else .bad
  | _, _ => .bad
theorem arr_app (i j : List Nat) : (⟨i.toArray⟩ : Str) ++ (⟨j.toArray⟩ : Str) = (⟨(i ++ j).toArray⟩ : Str) := by
  show Str.mk (i.toArray ++ j.toArray) = _
  simp
theorem arr_len (i : List Nat) : (⟨i.toArray⟩ : Str).length = i.length := by
  show i.toArray.size = _
  simp
theorem q_addS (ha : QE X T W a f1) (hb : QE X T W b f2) : QE X T W (.BinOp a .Add b pos) (e2 gAddS f1 f2) := q_op op_add_str (fun F ρ σ W Hs H vx vy x y Q Rf q1 q2 hp => by
  unfold gAddS at hp
  split at hp
  · rename_i i j e1 e2
    split at hp
    · rename_i hl
      refine ⟨_, _, str_of Rf q1 e1, str_of Rf q2 e2, ?_, ?_⟩
      · rw [arr_len, arr_len]
        exact line_of hl
      · rw [arr_app]
        exact hp _ H (Ex.refl _) (Rep.str _)
    · exact hp.elim
  · exact hp.elim) ha hb
def rMulS : R2 := fun x y H Q => ∃ (z : List Nat) (i : Int), x = .str ⟨z.toArray⟩ ∧ y = .int i ∧ 0 ≤ i ∧ i ≤ 1000000 ∧ z.length * i.toNat ≤ 1000000 ∧ Q (.str ⟨(List.replicate i.toNat z).flatten.toArray⟩) H
theorem foldl_rep (z : List Nat) : ∀ (n : Nat) (acc : Array Nat), (List.replicate n z.toArray).foldl (· ++ ·) acc = acc ++ (List.replicate n z).flatten.toArray
  | 0, acc => by simp
  | n + 1, acc => by
    rw [List.replicate_succ, List.foldl_cons, foldl_rep z n, List.replicate_succ, List.flatten_cons]
    simp
theorem op_mulS : OpR X (binaryOp .Mult) rMulS := by
  intro pins s σ H x y v u Q I rx ry h
  obtain ⟨z, i, rfl, rfl, h0, h1, hl, q⟩ := h
  obtain ⟨t, rfl⟩ := rx
  obtain ⟨t', rfl⟩ := ry
  have hz : (⟨z.toArray⟩ : Str).length = z.length := arr_len z
  refine PySem.P.mul_str ?_ (fun h2 h3 => ?_) (fun h2 h3 => ?_) ?_
  · rw [decide_eq_false (by omega), decide_eq_false (by omega)]
    rfl
  · rw [hz]
    have hi : 0 < i := by omega
    have hm : (z.length : Int) * i ≤ 1000000 := by
      have e : ((z.length * i.toNat : Nat) : Int) = (z.length : Int) * i := by
        rw [Int.natCast_mul, Int.toNat_of_nonneg h0]
      omega
    have h4 : (z.length : Int) ≤ (2 ^ 63 - 1) / i := by
      rw [Int.le_ediv_iff_mul_le hi]
      omega
    omega
  · rw [hz]
    unfold Builtin.Str.tooLong
    rw [decide_eq_false]
    have := line_of hl
    omega
  · by_cases h2 : i < 1
    · rw [if_pos h2]
      have e : i = 0 := by omega
      subst e
      exact ⟨by decide, ⟨.str _, H, I.tok _, ⟨_, rfl⟩, q⟩⟩
    · rw [if_neg h2]
      by_cases h3 : (i == 1 || (⟨z.toArray⟩ : Str).length == 0) = true
      · rw [if_pos h3]
        have e : (List.replicate i.toNat z).flatten = z := by
          rw [hz] at h3
          rcases Bool.or_eq_true_iff.mp h3 with h4 | h4
          · have e : i = 1 := by simpa using h4
            subst e
            simp
          · have e : z = [] := by
              have e2 : z.length = 0 := by simpa using h4
              exact List.length_eq_zero_iff.mp e2
            subst e
            simp
        rw [e] at q
        exact ⟨.str _, H, I, ⟨_, rfl⟩, q⟩
      · rw [if_neg h3]
        have e : (List.replicate i.toNat (⟨z.toArray⟩ : Str).cps).foldl (· ++ ·) #[] = (List.replicate i.toNat z).flatten.toArray := by
          have := foldl_rep z i.toNat #[]
          simpa using this
        show Made.post _ _ _
        rw [e]
        refine ⟨?_, ⟨.str _, H, I.tok _, ⟨_, rfl⟩, q⟩⟩
        rw [arr_len]
        have e : (List.replicate i.toNat z).flatten.length = i.toNat * z.length := by simp
        rw [e, Nat.mul_comm]
        exact line_of hl
def gMulS : Vl → Vl → R Vl := fun x y => match x.d, y.d with
  | .str z, .int i => if 0 ≤ i ∧ i ≤ 1000000 ∧ z.length * i.toNat ≤ 1000000 then sc (.str (List.replicate i.toNat z).flatten) else .bad
  | _, _ => .bad
theorem q_mulS (ha : QE X T W a f1) (hb : QE X T W b f2) : QE X T W (.BinOp a .Mult b pos) (e2 gMulS f1 f2) := q_op op_mulS (fun F ρ σ W Hs H vx vy x y Q Rf q1 q2 hp => by
  unfold gMulS at hp
  split at hp
  · rename_i i j e1 e2
    split at hp
    · rename_i hl
      exact ⟨_, _, str_of Rf q1 e1, int_of Rf q2 e2, hl.1, hl.2.1, hl.2.2, hp _ H (Ex.refl _) (Rep.str _)⟩
    · exact hp.elim
  · exact hp.elim) ha hb
/-- lists: x + y; list * int -/
def gCat : Vl → Vl → R Vl := fun x y => match x.d, y.d with
  | .lst i, .lst j => if i.length + j.length ≤ 1000000 then .ok ⟨.lst (i ++ j), .nw, x.f && y.f⟩ else .bad
  | _, _ => .bad
theorem q_cat (ha : QE X T W a f1) (hb : QE X T W b f2) : QE X T W (.BinOp a .Add b pos) (e2 gCat f1 f2) := q_op op_cat (fun F ρ σ W Hs H vx vy x y Q Rf q1 q2 hp => by
  unfold gCat at hp
  split at hp
  · rename_i i j e1 e2
    split at hp
    · rename_i hl
      obtain ⟨p, vs, rfl, h1, r1⟩ := lst_of Rf q1 e1
      obtain ⟨q, ws, rfl, h2, r2⟩ := lst_of Rf q2 e2
      refine ⟨p, q, vs, ws, rfl, rfl, h1, h2, ?_, fun c hc => hp _ _ (Ex.new hc) (born_lst Rf hc (Ex.new hc) upd_same ?_ (Ex.refl _))⟩
      · rw [r1.length, r2.length]
        exact line_of hl
      · exact (r1.mono (hp_le fun z => (Bool.and_eq_true_iff.mp z).1)).append (r2.mono (hp_le fun z => (Bool.and_eq_true_iff.mp z).2))
    · exact hp.elim
  · exact hp.elim) ha hb
def gRep : Vl → Vl → R Vl := fun x y => match x.d, y.d with
  | .lst l, .int i => if 0 ≤ i ∧ i ≤ 1000000 ∧ l.length * i.toNat ≤ 1000000 then .ok ⟨.lst (List.replicate i.toNat l).flatten, .nw, x.f⟩ else .bad
  | _, _ => .bad
theorem q_rep (ha : QE X T W a f1) (hb : QE X T W b f2) : QE X T W (.BinOp a .Mult b pos) (e2 gRep f1 f2) := q_op op_rep (fun F ρ σ W Hs H vx vy x y Q Rf q1 q2 hp => by
  unfold gRep at hp
  split at hp
  · rename_i l i e1 e2
    split at hp
    · rename_i hl
      obtain ⟨p, vs, rfl, h1, r1⟩ := lst_of Rf q1 e1
      refine ⟨p, i, vs, rfl, int_of Rf q2 e2, h1, by omega, by omega, ?_, fun c hc => hp _ _ (Ex.new hc) (born_lst Rf hc (Ex.new hc) upd_same (r1.rep _) (Ex.refl _))⟩
      rw [r1.length]
      exact line_of hl.2.2
    · exact hp.elim
  · exact hp.elim) ha hb
end

/-! ### comparisons -/
def int? (a : Vl) : Option Int := match a.d with
  | .int i => some i
  | _ => none
theorem int?_eq {a : Vl} {i : Int} (h : int? a = some i) : a.d = .int i := by
  unfold int? at h
  split at h
  · rename_i e
    cases h
    exact e
  · cases h
def icmp (g : Int → Int → Bool) : Vl → Vl → Option Bool := fun x y => match int? x, int? y with
  | some i, some j => some (g i j)
  | _, _ => none
theorem sndC_I {K : PySem.W.Frag} {T : Tb} {g : Int → Int → Bool} : SndC K T (rI0 fun i j => .bl (g i j)) (icmp g) := fun F ρ σ Hs H vx vy x y Q k Rf q1 q2 e hk => by
  unfold icmp at e
  split at e
  · rename_i i j e1 e2
    cases e
    exact ⟨i, j, int_of Rf q1 (int?_eq e1), int_of Rf q2 (int?_eq e2), hk H (Ex.refl _)⟩
  · cases e
def cLt := icmp fun i j => decide (i < j)
def cLe := icmp fun i j => decide (i ≤ j)
def cGt := icmp fun i j => decide (j < i)
def cGe := icmp fun i j => decide (j ≤ i)
theorem s_lt {K : PySem.W.Frag} {T : Tb} : SndC K T (rI0 fun i j => .bl (decide (i < j))) cLt := sndC_I
theorem s_le {K : PySem.W.Frag} {T : Tb} : SndC K T (rI0 fun i j => .bl (decide (i ≤ j))) cLe := sndC_I
theorem s_gt {K : PySem.W.Frag} {T : Tb} : SndC K T (rI0 fun i j => .bl (decide (j < i))) cGt := sndC_I
theorem s_ge {K : PySem.W.Frag} {T : Tb} : SndC K T (rI0 fun i j => .bl (decide (j ≤ i))) cGe := sndC_I
/-- is None, is not None -/
def nonB : D → Bool
  | .non => true
  | _ => false
theorem nonB_eq {d : D} (h : nonB d = true) : d = .non := by
  cases d <;> first | rfl | cases h
def cIsN : Vl → Vl → Option Bool := fun x y => if nonB y.d then some (nonB x.d) else none
def cNotN : Vl → Vl → Option Bool := fun x y => if nonB y.d then some (!nonB x.d) else none
theorem non_iff {K : PySem.W.Frag} {T : Tb} {F : Fp} {ρ : En} {σ : L2.St} {Hs H : Hp} (Rf : Fm K T F ρ σ H) {v : V} {a : Vl} (h : RepV K T F ρ σ v a Hs H) : decide (v = .non) = nonB a.d := by
  have q := h.sh Rf.vH
  obtain ⟨d, m, f⟩ := a
  cases d with
  | lst ds => obtain ⟨p, vs, rfl, _⟩ := q; rfl
  | dct ds => obtain ⟨p, vs, rfl, _⟩ := q; rfl
  | obj c ds => obtain ⟨p, dx, vs, rfl, _⟩ := q; rfl
  | non => cases (show Rep K T _ v .non from q); rfl
  | bl _ => cases (show Rep K T _ v (.bl _) from q); rfl
  | int _ => cases (show Rep K T _ v (.int _) from q); rfl
  | str _ => cases (show Rep K T _ v (.str _) from q); rfl
  | lsk _ => cases (show Rep K T _ v (.lsk _) from q); rfl
  | tup _ => cases (show Rep K T _ v (.tup _) from q); rfl
theorem s_isN {K : PySem.W.Frag} {T : Tb} : SndC K T (fun x y H Q => y = .non ∧ Q (.bl (decide (x = .non))) H) cIsN := fun F ρ σ Hs H vx vy x y Q k Rf q1 q2 e hk => by
  unfold cIsN at e
  split at e
  · rename_i e1
    cases e
    refine ⟨non_of Rf q2 (nonB_eq e1), ?_⟩
    rw [non_iff Rf q1]
    exact hk H (Ex.refl _)
  · cases e
theorem s_notN {K : PySem.W.Frag} {T : Tb} : SndC K T (fun x y H Q => y = .non ∧ Q (.bl (!decide (x = .non))) H) cNotN := fun F ρ σ Hs H vx vy x y Q k Rf q1 q2 e hk => by
  unfold cNotN at e
  split at e
  · rename_i e1
    cases e
    refine ⟨non_of Rf q2 (nonB_eq e1), ?_⟩
    rw [non_iff Rf q1]
    exact hk H (Ex.refl _)
  · cases e

/-! ### == of data -/
mutual
def py : D → Option PyData
  | .non => some .none
  | .bl b => some (.bool b)
  | .int i => some (.int i)
  | .str s => if PyData.strOk ⟨s.toArray⟩ then some (.str ⟨s.toArray⟩) else none
  | .lst l => (pys l).map .list
  | .lsk l => (pys l).map .list
  | .tup l => (pys l).map .tuple
  | .dct _ => none
  | .obj _ _ => none
def pys : List D → Option (List PyData)
  | [] => some []
  | d :: ds => match py d, pys ds with
    | some x, some xs => some (x :: xs)
    | _, _ => none
end
section
variable {K : PySem.W.Frag} {T : Tb} {H : Hp}
mutual
theorem py_dp : ∀ {d : D} {v : V} {x : PyData}, Rep K T H v d → py d = some x → Dp K H v x ∧ x.canLay0 = true
  | .non, _, x, .non, e => by
    unfold py at e
    cases e
    exact ⟨.non, rfl⟩
  | .bl b, _, x, .bl _, e => by
    unfold py at e
    cases e
    exact ⟨.bl b, rfl⟩
  | .int b, _, x, .int _, e => by
    unfold py at e
    cases e
    exact ⟨.int b, rfl⟩
  | .str b, _, x, .str _, e => by
    unfold py at e
    split at e
    · rename_i h
      cases e
      exact ⟨.str _, by unfold PyData.canLay0; exact h⟩
    · cases e
  | .lst l, _, x, .lst p vs _ h r, e => by
    unfold py at e
    obtain ⟨xs, h1, rfl⟩ := Option.map_eq_some_iff.mp e
    have q := pys_dp r h1
    exact ⟨.lst (SqL.of h) q.1, by unfold PyData.canLay0; exact q.2⟩
  | .lsk l, _, x, .lsk p vs _ h r, e => by
    unfold py at e
    obtain ⟨xs, h1, rfl⟩ := Option.map_eq_some_iff.mp e
    have q := pys_dp r h1
    exact ⟨.lst h q.1, by unfold PyData.canLay0; exact q.2⟩
  | .tup l, _, x, .tup p vs _ h r, e => by
    unfold py at e
    obtain ⟨xs, h1, rfl⟩ := Option.map_eq_some_iff.mp e
    have q := pys_dp r h1
    exact ⟨.tup h q.1, by unfold PyData.canLay0; exact q.2⟩
  | .dct _, _, x, _, e => by unfold py at e; cases e
  | .obj _ _, _, x, _, e => by unfold py at e; cases e
theorem pys_dp : ∀ {ds : List D} {vs : List V} {xs : List PyData}, Reps K T H vs ds → pys ds = some xs → DpAll K H vs xs ∧ PyData.canLayAll0 xs = true
  | [], _, xs, .nil, e => by
    unfold pys at e
    cases e
    exact ⟨.nil, rfl⟩
  | d :: ds, _, xs, .cons v _ vs _ h r, e => by
    unfold pys at e
    split at e
    · rename_i x ys h1 h2
      cases e
      have q1 := py_dp h h1
      have q2 := pys_dp r h2
      refine ⟨.cons q1.1 q2.1, ?_⟩
      unfold PyData.canLayAll0
      rw [q1.2, q2.2]
      rfl
    · cases e
end
end
theorem sh_py {K : PySem.W.Frag} {T : Tb} {H G : Hp} (g : Ex G H) {v : V} {d : D} {x : PyData} (h : ShRep K T H G v d) (e : py d = some x) : Dp K H v x ∧ x.canLay0 = true := by
  cases d with
  | lst l =>
    unfold py at e
    obtain ⟨xs, h1, rfl⟩ := Option.map_eq_some_iff.mp e
    obtain ⟨p, vs, rfl, h2, h3⟩ := h
    have q := pys_dp (h3.mono g) h1
    exact ⟨.lst (SqL.of h2) q.1, by unfold PyData.canLay0; exact q.2⟩
  | dct l => unfold py at e; cases e
  | obj c l => unfold py at e; cases e
  | non => exact py_dp (Rep.mono g h) e
  | bl _ => exact py_dp (Rep.mono g h) e
  | int _ => exact py_dp (Rep.mono g h) e
  | str _ => exact py_dp (Rep.mono g h) e
  | lsk _ => exact py_dp (Rep.mono g h) e
  | tup _ => exact py_dp (Rep.mono g h) e
def eqD (x y : D) : Option Bool := match py x, py y with
  | some a, some b => if a.depth ≤ 64 ∧ b.depth ≤ 64 then some (PyData.eqv a b) else none
  | _, _ => none
def cEq : Vl → Vl → Option Bool := fun x y => eqD x.d y.d
def cNe : Vl → Vl → Option Bool := fun x y => (eqD x.d y.d).map (!·)
theorem shaped_mk {d : PyData} (h : d.canLay0 = true) (h2 : d.depth ≤ 64) : SeqAt.shaped d = true := by
  unfold SeqAt.shaped
  rw [h, decide_eq_true h2]
  rfl
theorem s_eq {K : PySem.W.Frag} {T : Tb} : SndC K T (rEqD K) cEq := fun F ρ σ Hs H vx vy x y Q k Rf q1 q2 e hk => by
  unfold cEq eqD at e
  split at e
  · rename_i a b e1 e2
    split at e
    · rename_i hd
      cases e
      have r1 := sh_py Rf.hH (q1.sh Rf.vH) e1
      have r2 := sh_py Rf.hH (q2.sh Rf.vH) e2
      exact ⟨a, b, r1.1, r2.1, shaped_mk r1.2 hd.1, shaped_mk r2.2 hd.2, hk H (Ex.refl _)⟩
    · cases e
  · cases e
theorem s_ne {K : PySem.W.Frag} {T : Tb} : SndC K T (rNeD K) cNe := fun F ρ σ Hs H vx vy x y Q k Rf q1 q2 e hk => by
  unfold cNe eqD at e
  split at e
  · rename_i a b e1 e2
    split at e
    · rename_i hd
      cases e
      have r1 := sh_py Rf.hH (q1.sh Rf.vH) e1
      have r2 := sh_py Rf.hH (q2.sh Rf.vH) e2
      exact ⟨a, b, r1.1, r2.1, shaped_mk r1.2 hd.1, shaped_mk r2.2 hd.2, hk H (Ex.refl _)⟩
    · cases e
  · cases e
end Ev
set_option maxHeartbeats 1000000
/-! Ev4: in, subscripts, slices, built-in functions, attributes, dicts. -/
namespace Ev
open PySem L2

/-! ### in -/
def cInS : Vl → Vl → Option Bool := fun x y => match x.d, y.d with
  | .str [c], .str l => some (decide (c ∈ l))
  | _, _ => none
def cNinS : Vl → Vl → Option Bool := fun x y => (cInS x y).map (!·)
theorem inS_parts {x y : Vl} {k : Bool} (e : cInS x y = some k) : ∃ c l, x.d = .str [c] ∧ y.d = .str l ∧ k = decide (c ∈ l) := by
  unfold cInS at e
  split at e
  · rename_i c l h1 h2
    cases e
    exact ⟨c, l, h1, h2, rfl⟩
  · cases e
theorem s_inS {K : PySem.W.Frag} {T : Tb} : SndC K T (fun x y H Q => ∃ (c : Nat) (z : Str), x = .str ⟨#[c]⟩ ∧ y = .str z ∧ Q (.bl (decide (c ∈ z.cps.toList))) H) cInS := fun F ρ σ Hs H vx vy x y Q k Rf q1 q2 e hk => by
  obtain ⟨c, l, h1, h2, rfl⟩ := inS_parts e
  exact ⟨c, _, str_of Rf q1 h1, str_of Rf q2 h2, hk H (Ex.refl _)⟩
theorem s_ninS {K : PySem.W.Frag} {T : Tb} : SndC K T (fun x y H Q => ∃ (c : Nat) (z : Str), x = .str ⟨#[c]⟩ ∧ y = .str z ∧ Q (.bl (!decide (c ∈ z.cps.toList))) H) cNinS := fun F ρ σ Hs H vx vy x y Q k Rf q1 q2 e hk => by
  obtain ⟨k', e', rfl⟩ := Option.map_eq_some_iff.mp e
  obtain ⟨c, l, h1, h2, rfl⟩ := inS_parts e'
  exact ⟨c, _, str_of Rf q1 h1, str_of Rf q2 h2, hk H (Ex.refl _)⟩
/-- == of scalars -/
def eqS : D → D → Bool
  | .non, .non => true
  | .bl a, .bl b => a == b
  | .bl a, .int b => (if a then 1 else 0) == b
  | .int a, .bl b => a == (if b then 1 else 0)
  | .int a, .int b => a == b
  | .str a, .str b => a == b
  | _, _ => false
def inD (x : D) (ds : List D) : Bool := ds.any fun y => eqS y x
theorem rep_flat {K : PySem.W.Frag} {T : Tb} {H : Hp} {v : V} {d : D} (h : Rep K T H v d) (e : scalar d = true) : flatV v = true := by
  cases h <;> first | rfl | cases e
theorem arr_beq (a b : List Nat) : ((⟨a.toArray⟩ : Str) == ⟨b.toArray⟩) = (a == b) := by
  rw [Bool.eq_iff_iff, beq_iff_eq, beq_iff_eq]
  constructor
  · intro h
    have h2 := congrArg (fun z : Str => z.cps.toList) h
    simpa using h2
  · rintro rfl
    rfl
theorem rep_eq {K : PySem.W.Frag} {T : Tb} {H H' : Hp} {v w : V} {d e : D} (h : Rep K T H v d) (g : Rep K T H' w e) (hd : scalar d = true) (he : scalar e = true) : eqV v w = eqS d e := by
  cases h <;> (try cases hd) <;> cases g <;> (try cases he) <;> first | rfl | exact arr_beq _ _
theorem reps_flat {K : PySem.W.Frag} {T : Tb} {H : Hp} : ∀ {vs : List V} {ds : List D}, Reps K T H vs ds → ds.all scalar = true → vs.all flatV = true
  | _, _, .nil, _ => rfl
  | _, _, .cons v d vs ds h r, e => by
    rw [List.all_cons, Bool.and_eq_true_iff] at e
    rw [List.all_cons, rep_flat h e.1, reps_flat r e.2]
    rfl
theorem reps_in {K : PySem.W.Frag} {T : Tb} {H H' : Hp} {x : V} {dx : D} (hx : Rep K T H' x dx) (sx : scalar dx = true) : ∀ {vs : List V} {ds : List D}, Reps K T H vs ds → ds.all scalar = true → inV x vs = inD dx ds
  | _, _, .nil, _ => rfl
  | _, _, .cons v d vs ds h r, e => by
    rw [List.all_cons, Bool.and_eq_true_iff] at e
    have ih := reps_in hx sx r e.2
    unfold inV inD at ih ⊢
    rw [List.any_cons, List.any_cons, ih, rep_eq h hx e.1 sx]
def items? : D → Option (List D)
  | .lst l => some l
  | .lsk l => some l
  | .tup l => some l
  | _ => none
theorem items_of {K : PySem.W.Frag} {T : Tb} {F : Fp} {ρ : En} {σ : L2.St} {Hs H : Hp} (Rf : Fm K T F ρ σ H) {v : V} {a : Vl} {ds : List D} (h : RepV K T F ρ σ v a Hs H) (e : items? a.d = some ds) :
    ∃ p vs, v = .ref p ∧ (SqL K H p vs ∨ SqT K H p vs) ∧ Reps K T (hpB F ρ σ H a.f) vs ds := by
  cases hd : a.d with
  | lst l =>
    rw [hd] at e
    cases e
    obtain ⟨p, vs, h1, h2, h3⟩ := seq_of Rf h (by rw [hd]; rfl)
    exact ⟨p, vs, h1, .inl h2, h3⟩
  | lsk l =>
    rw [hd] at e
    cases e
    obtain ⟨p, vs, h1, h2, h3⟩ := seq_of Rf h (by rw [hd]; rfl)
    exact ⟨p, vs, h1, .inl h2, h3⟩
  | tup l =>
    rw [hd] at e
    cases e
    obtain ⟨p, vs, h1, h2, h3⟩ := tup_of Rf h hd
    exact ⟨p, vs, h1, .inr h2, h3⟩
  | _ => rw [hd] at e; cases e
def cIn : Vl → Vl → Option Bool := fun x y => match items? y.d with
  | some ds => if scalar x.d = true ∧ ds.all scalar = true then some (inD x.d ds) else none
  | none => none
def cNin : Vl → Vl → Option Bool := fun x y => (cIn x y).map (!·)
theorem in_parts {x y : Vl} {k : Bool} (e : cIn x y = some k) : ∃ ds, items? y.d = some ds ∧ scalar x.d = true ∧ ds.all scalar = true ∧ k = inD x.d ds := by
  unfold cIn at e
  split at e
  · rename_i ds h1
    split at e
    · rename_i h2
      cases e
      exact ⟨ds, h1, h2.1, h2.2, rfl⟩
    · cases e
  · cases e
theorem repV_scal {K : PySem.W.Frag} {T : Tb} {F : Fp} {ρ : En} {σ : L2.St} {Hs H : Hp} (Rf : Fm K T F ρ σ H) {v : V} {a : Vl} (h : RepV K T F ρ σ v a Hs H) (e : scalar a.d = true) : Rep K T H v a.d := by
  have q := h.sh Rf.vH
  cases hd : a.d with
  | non => rw [hd] at q; exact Rep.scal rfl (show Rep K T _ v .non from q)
  | bl _ => rw [hd] at q; exact Rep.scal rfl (show Rep K T _ v (.bl _) from q)
  | int _ => rw [hd] at q; exact Rep.scal rfl (show Rep K T _ v (.int _) from q)
  | str _ => rw [hd] at q; exact Rep.scal rfl (show Rep K T _ v (.str _) from q)
  | _ => rw [hd] at e; cases e
theorem s_in {K : PySem.W.Frag} {T : Tb} : SndC K T (rIn K false) cIn := fun F ρ σ Hs H vx vy x y Q k Rf q1 q2 e hk => by
  obtain ⟨ds, h1, h2, h3, rfl⟩ := in_parts e
  obtain ⟨p, vs, rfl, hq, r⟩ := items_of Rf q2 h1
  have hx := repV_scal Rf q1 h2
  refine ⟨p, vs, rfl, hq, rep_flat hx h2, reps_flat r h3, ?_⟩
  rw [if_neg Bool.false_ne_true, reps_in hx h2 r h3]
  exact hk H (Ex.refl _)
theorem s_nin {K : PySem.W.Frag} {T : Tb} : SndC K T (rIn K true) cNin := fun F ρ σ Hs H vx vy x y Q k Rf q1 q2 e hk => by
  obtain ⟨k', e', rfl⟩ := Option.map_eq_some_iff.mp e
  obtain ⟨ds, h1, h2, h3, rfl⟩ := in_parts e'
  obtain ⟨p, vs, rfl, hq, r⟩ := items_of Rf q2 h1
  have hx := repV_scal Rf q1 h2
  refine ⟨p, vs, rfl, hq, rep_flat hx h2, reps_flat r h3, ?_⟩
  rw [if_pos rfl, reps_in hx h2 r h3]
  exact hk H (Ex.refl _)

/-! ### subscripts -/
def gIx : Vl → Vl → R Vl := fun x y => match y.d with
  | .int i => match x.d with
    | .lst l => ofO (atI l i) fun d => pl d x.f
    | .lsk l => ofO (atI l i) fun d => pl d x.f
    | .tup l => ofO (atI l i) fun d => pl d x.f
    | .str l => ofO (atI l i) fun c => if l.length ≤ 1000000 then sc (.str [c]) else .bad
    | _ => .bad
  | _ => .bad
theorem atI_reps {K : PySem.W.Frag} {T : Tb} {H : Hp} {vs : List V} {ds : List D} (r : Reps K T H vs ds) {i : Int} {d : D} (e : atI ds i = some d) : ∃ v, atI vs i = some v ∧ Rep K T H v d := by
  unfold atI at e ⊢
  rw [r.length]
  cases hj : ixN ds.length i with
  | none => rw [hj] at e; cases e
  | some j =>
    rw [hj] at e
    exact r.get e
theorem pl_put {c : Cn} {d : D} {f : Bool} {H : Hp} {Q : VK} (h : Pst c (relE c) (pl d f) H Q) {v : V} (r : Rep c.K c.T (hpB c.F c.ρ c.σ H f) v d) : Q v H := h v H (Ex.refl _) (repV_pl r)
theorem snd_ix {K : PySem.W.Frag} {T : Tb} : Snd K T (rIx K) gIx := fun F ρ σ W Hs H vx vy x y Q Rf q1 q2 hp => by
  unfold gIx at hp
  split at hp
  · rename_i i e2
    have hy := int_of Rf q2 e2
    split at hp
    · rename_i l e1
      obtain ⟨d, h1, h2⟩ := Pst.ofO hp
      obtain ⟨p, vs, rfl, hs, r⟩ := seq_of Rf q1 (by rw [e1]; rfl)
      obtain ⟨v, h3, h4⟩ := atI_reps r h1
      exact .inl ⟨p, vs, i, v, rfl, hy, hs, h3, pl_put h2 h4⟩
    · rename_i l e1
      obtain ⟨d, h1, h2⟩ := Pst.ofO hp
      obtain ⟨p, vs, rfl, hs, r⟩ := seq_of Rf q1 (by rw [e1]; rfl)
      obtain ⟨v, h3, h4⟩ := atI_reps r h1
      exact .inl ⟨p, vs, i, v, rfl, hy, hs, h3, pl_put h2 h4⟩
    · rename_i l e1
      obtain ⟨d, h1, h2⟩ := Pst.ofO hp
      obtain ⟨p, vs, rfl, hs, r⟩ := tup_of Rf q1 e1
      obtain ⟨v, h3, h4⟩ := atI_reps r h1
      exact .inr (.inl ⟨p, vs, i, v, rfl, hy, hs, h3, pl_put h2 h4⟩)
    · rename_i l e1
      obtain ⟨c, h1, h2⟩ := Pst.ofO hp
      split at h2
      · rename_i hl
        refine .inr (.inr ⟨_, i, c, str_of Rf q1 e1, hy, by rw [arr_len]; exact line_of hl, h1, h2 _ H (Ex.refl _) (Rep.str [c])⟩)
      · exact h2.elim
    · exact hp.elim
  · exact hp.elim
section
variable {X : Cx} {T : Tb} {W : WX} {a b e : Expr} {f f1 f2 f3 : En → R Vl} {pos : Pos}
theorem q_ix (ha : QE X T W a f1) (hb : QE X T W b f2) (hs : PlainIx b := by exact fun _ _ => rfl) : QE X T W (.Subscript a b pos) (e2 gIx f1 f2) := by
  obtain ⟨ta, pa, ha⟩ := ha.ex
  obtain ⟨tb, pb, hb⟩ := hb.ex
  exact ⟨⟨_, pe_ix ix_seq pa pb hs, snd_te snd_ix ha hb⟩⟩
/-- x[lo:hi] -/
structure QO (X : Cx) (T : Tb) (W : WX) (e : Option Expr) (f : En → R (Option Int)) : Prop where
  ex : ∃ t : TO, PO X e t ∧ ∀ F ρ σ H, Fm X.K T F ρ σ H → ∀ Q, Pst ⟨X.K, T, F, ρ, σ, W⟩ (fun (b a : Option Int) _ _ => b = a) (f ρ) H Q → t σ H Q
def oNone : En → R (Option Int) := fun _ => .ok none
def oSome (f : En → R Vl) : En → R (Option Int) := fun ρ => (f ρ).bind fun x => ofO (int? x) fun i => .ok (some i)
theorem stO : StMono (fun (b a : Option Int) (_ _ : Hp) => b = a) := fun _ _ _ _ _ _ h => h
theorem qo_none : QO X T W none oNone := ⟨⟨_, po_none, fun F ρ σ H Rf Q h => h none H (Ex.refl _) rfl⟩⟩
theorem qo_some (he : QE X T W e f) : QO X T W (some e) (oSome f) := by
  obtain ⟨ta, pa, ha⟩ := he.ex
  refine ⟨⟨_, po_some pa, fun F ρ σ H Rf Q h => ?_⟩⟩
  refine ha F ρ σ H Rf _ (h.bind stO fun x vx H1 _ e1 q1 h1 => ?_)
  obtain ⟨i, h2, h3⟩ := Pst.ofO h1
  exact ⟨i, int_of (Rf.mono e1) q1 (int?_eq h2), h3 _ H1 (Ex.refl _) rfl⟩
def cut {α : Type} (l : List α) (lo hi : Option Int) : List α := (l.drop (HT.sIx l.length 0 lo)).take (HT.sIx l.length l.length hi - HT.sIx l.length 0 lo)
def gSl (x : Vl) (lo hi : Option Int) : R Vl := match x.d with
  | .lst l => .ok ⟨.lst (cut l lo hi), .nw, x.f⟩
  | .lsk l => .ok ⟨.lst (cut l lo hi), .nw, x.f⟩
  | .str l => if l.length ≤ 1000000 then sc (.str (cut l lo hi)) else .bad
  | _ => .bad
def rSlS : V → Option Int → Option Int → Hp → VK → Prop := fun x lo hi H Q => ∃ z : Str, x = .str z ∧ z.length ≤ sizeLine ∧ Q (.str (cutS z lo hi)) H
def eSl (f : En → R Vl) (lo hi : En → R (Option Int)) : En → R Vl := fun ρ => (f ρ).bind fun x => (lo ρ).bind fun l => (hi ρ).bind fun u => gSl x l u
theorem cut_reps {K : PySem.W.Frag} {H : Hp} {vs : List V} {ds : List D} (r : Reps K T H vs ds) (lo hi : Option Int) : Reps K T H (cutV vs lo hi) (cut ds lo hi) := by
  unfold cutV cut
  rw [r.length]
  exact (r.drop _).take _
theorem q_sl {lo hi : Option Expr} {g1 g2 : En → R (Option Int)} {p2 : Pos} (he : QE X T W e f) (hl : QO X T W lo g1) (hh : QO X T W hi g2) : QE X T W (.Subscript e (.Slice lo hi none p2) pos) (eSl f g1 g2) := by
  obtain ⟨ta, pa, ha⟩ := he.ex
  obtain ⟨tl, pl', hl⟩ := hl.ex
  obtain ⟨th, ph, hh⟩ := hh.ex
  refine ⟨⟨_, pe_slice (r := fun x lo hi H Q => rSlL X.K x lo hi H Q ∨ ∃ z : Str, x = .str z ∧ z.length ≤ sizeLine ∧ Q (.str (cutS z lo hi)) H) (sl_list.or sl_str) pa pl' ph, fun F ρ σ H Rf Q h => ?_⟩⟩
  refine ha F ρ σ H Rf _ (h.bind (stE _) fun x vx H1 _ e1 q1 h1 => ?_)
  refine hl F ρ σ H1 (Rf.mono e1) _ (h1.bind (stE _) fun l l' H2 _ e2 q2 h2 => ?_)
  refine hh F ρ σ H2 (Rf.mono (e1.trans e2)) _ (h2.bind (stE _) fun u u' H3 _ e3 q3 h3 => ?_)
  subst q2 q3
  have Rf3 := Rf.mono (e1.trans (e2.trans e3))
  have q1' := RepV.mono (Ex.refl _) (e2.trans e3) q1
  unfold gSl at h3
  split at h3
  · rename_i z e
    obtain ⟨p, vs, rfl, hs, r⟩ := seq_of Rf3 q1' (by rw [e]; rfl)
    exact .inl ⟨p, vs, rfl, hs, fun c hc => h3 _ _ (Ex.new hc) (born_lst Rf3 hc (Ex.new hc) upd_same (cut_reps r _ _) (Ex.refl _))⟩
  · rename_i z e
    obtain ⟨p, vs, rfl, hs, r⟩ := seq_of Rf3 q1' (by rw [e]; rfl)
    exact .inl ⟨p, vs, rfl, hs, fun c hc => h3 _ _ (Ex.new hc) (born_lst Rf3 hc (Ex.new hc) upd_same (cut_reps r _ _) (Ex.refl _))⟩
  · rename_i z e
    split at h3
    · rename_i hz
      refine .inr ⟨_, str_of Rf3 q1' e, by rw [arr_len]; exact line_of hz, h3 _ H3 (Ex.refl _) ?_⟩
      have q := Rep.str (K := X.K) (T := T) (H := hpB F ρ σ H3 true) (cut z l' u')
      unfold cut at q
      unfold cutS
      rw [arr_len]
      exact q
    · exact h3.elim
  · exact h3.elim
/-- x[::-1] -/
def eRev (f : En → R Vl) : En → R Vl := fun ρ => (f ρ).bind fun x => ofO (seq? x.d) fun l => .ok ⟨.lst l.reverse, .nw, x.f⟩
theorem q_rev {k : Nat} {p1 p2 p3 : Pos} (he : QE X T W e f) : QE X T W (.Subscript e (.Slice none none (some (.UnaryOp .USub (.Constant (.int 1) k p1) p2)) p3) pos) (eRev f) := by
  obtain ⟨ta, pa, ha⟩ := he.ex
  refine ⟨⟨_, pe_revL pa, fun F ρ σ H Rf Q h => ?_⟩⟩
  refine ha F ρ σ H Rf _ (h.bind (stE _) fun x vx H1 _ e1 q1 h1 => ?_)
  obtain ⟨l, h2, h3⟩ := Pst.ofO h1
  obtain ⟨p, vs, rfl, hs, r⟩ := seq_of (Rf.mono e1) q1 h2
  exact ⟨p, vs, rfl, hs, fun c hc => h3 _ _ (Ex.new hc) (born_lst (Rf.mono e1) hc (Ex.new hc) upd_same r.reverse (Ex.refl _))⟩

/-! ### built-in functions and types -/
def Snd1 (K : PySem.W.Frag) (T : Tb) (r : List V → Hp → VK → Prop) (g : Vl → R Vl) : Prop := ∀ (F : Fp) (ρ : En) (σ : L2.St) (W : WX) (Hs H : Hp) (vx : V) (x : Vl) (Q : VK), Fm K T F ρ σ H → RepV K T F ρ σ vx x Hs H →
  Pst ⟨K, T, F, ρ, σ, W⟩ (relE ⟨K, T, F, ρ, σ, W⟩) (g x) H Q → r [vx] H Q
def Snd2 (K : PySem.W.Frag) (T : Tb) (r : List V → Hp → VK → Prop) (g : Vl → Vl → R Vl) : Prop := ∀ (F : Fp) (ρ : En) (σ : L2.St) (W : WX) (Hs H : Hp) (vx vy : V) (x y : Vl) (Q : VK), Fm K T F ρ σ H → RepV K T F ρ σ vx x Hs H → RepV K T F ρ σ vy y Hs H →
  Pst ⟨K, T, F, ρ, σ, W⟩ (relE ⟨K, T, F, ρ, σ, W⟩) (g x y) H Q → r [vx, vy] H Q
def e1 (g : Vl → R Vl) (f : En → R Vl) : En → R Vl := fun ρ => (f ρ).bind g
theorem snd1_te {r : List V → Hp → VK → Prop} {g : Vl → R Vl} {ta : TE} (hs : Snd1 X.K T r g)
    (ha : ∀ F ρ σ H, Fm X.K T F ρ σ H → ∀ Q, Pst ⟨X.K, T, F, ρ, σ, W⟩ (relE ⟨X.K, T, F, ρ, σ, W⟩) (f ρ) H Q → ta σ H Q) :
    ∀ F ρ σ H, Fm X.K T F ρ σ H → ∀ Q, Pst ⟨X.K, T, F, ρ, σ, W⟩ (relE ⟨X.K, T, F, ρ, σ, W⟩) (e1 g f ρ) H Q → tCB r (tCons ta tNil) σ H Q := fun F ρ σ H Rf Q h =>
  ha F ρ σ H Rf _ (h.bind (stE _) fun x vx H1 _ e1 q1 h1 => hs F ρ σ W H H1 vx x Q (Rf.mono e1) q1 h1)
theorem snd2_te {r : List V → Hp → VK → Prop} {g : Vl → Vl → R Vl} {ta tb : TE} (hs : Snd2 X.K T r g)
    (ha : ∀ F ρ σ H, Fm X.K T F ρ σ H → ∀ Q, Pst ⟨X.K, T, F, ρ, σ, W⟩ (relE ⟨X.K, T, F, ρ, σ, W⟩) (f1 ρ) H Q → ta σ H Q) (hb : ∀ F ρ σ H, Fm X.K T F ρ σ H → ∀ Q, Pst ⟨X.K, T, F, ρ, σ, W⟩ (relE ⟨X.K, T, F, ρ, σ, W⟩) (f2 ρ) H Q → tb σ H Q) :
    ∀ F ρ σ H, Fm X.K T F ρ σ H → ∀ Q, Pst ⟨X.K, T, F, ρ, σ, W⟩ (relE ⟨X.K, T, F, ρ, σ, W⟩) (e2 g f1 f2 ρ) H Q → tCB r (tCons ta (tCons tb tNil)) σ H Q := fun F ρ σ H Rf Q h =>
  ha F ρ σ H Rf _ (h.bind (stE _) fun x vx H1 _ e1 q1 h1 => hb F ρ σ H1 (Rf.mono e1) _ (h1.bind (stE _) fun y vy H2 _ e2 q2 h2 =>
    hs F ρ σ W H H2 vx vy x y Q (Rf.mono (e1.trans e2)) (RepV.mono (Ex.refl _) e2 q1) (RepV.mono e1 (Ex.refl _) q2) h2))
theorem q_B1 {id : String} {r : List V → Hp → VK → Prop} {g : Vl → R Vl} {x : Str} {p : Pos} (hc : CallR X (.builtin id) r) (hs : Snd1 X.K T r g) (hg : Gl X x) (hm : X.mg x = none) (hv : bootBuiltins x = some (.builtin id)) (ha : QE X T W a f)
    (hn : x ≠ "__name__" := by decide) (hdb : (x == ("__debug__" : Str)) = false := by decide)
    (he : starEach [a] X.env = (false, eval a X.env) :: starEach [] X.env := by rfl) (hpl : (backTo pos (starEach [] X.env)).any (·.1) = false := by rfl) : QE X T W (.Call (.Name x p) [a] [] pos) (e1 g f) := by
  obtain ⟨ta, pa, ha⟩ := ha.ex
  exact ⟨⟨_, pe_callB hc hg hm hv (pa_cons pa pa_nil he) hn hdb he hpl, snd1_te hs ha⟩⟩
theorem q_T1 {id : String} {r : List V → Hp → VK → Prop} {g : Vl → R Vl} {x : Str} {p : Pos} (hc : CallR X (.type id) r) (hs : Snd1 X.K T r g) (hg : Gl X x) (hm : X.mg x = none) (hv : bootBuiltins x = some (.type id)) (ha : QE X T W a f)
    (hn : x ≠ "__name__" := by decide) (hdb : (x == ("__debug__" : Str)) = false := by decide)
    (he : starEach [a] X.env = (false, eval a X.env) :: starEach [] X.env := by rfl) (hpl : (backTo pos (starEach [] X.env)).any (·.1) = false := by rfl) : QE X T W (.Call (.Name x p) [a] [] pos) (e1 g f) := by
  obtain ⟨ta, pa, ha⟩ := ha.ex
  exact ⟨⟨_, pe_callTy hc hg hm hv (pa_cons pa pa_nil he) hn hdb he hpl, snd1_te hs ha⟩⟩
theorem q_B2 {id : String} {r : List V → Hp → VK → Prop} {g : Vl → Vl → R Vl} {x : Str} {p : Pos} (hc : CallR X (.builtin id) r) (hs : Snd2 X.K T r g) (hg : Gl X x) (hm : X.mg x = none) (hv : bootBuiltins x = some (.builtin id)) (ha : QE X T W a f1) (hb : QE X T W b f2)
    (hn : x ≠ "__name__" := by decide) (hdb : (x == ("__debug__" : Str)) = false := by decide)
    (he : starEach [a, b] X.env = (false, eval a X.env) :: starEach [b] X.env := by rfl) (he2 : starEach [b] X.env = (false, eval b X.env) :: starEach [] X.env := by rfl) (hpl : (backTo pos (starEach [b] X.env)).any (·.1) = false := by rfl) :
    QE X T W (.Call (.Name x p) [a, b] [] pos) (e2 g f1 f2) := by
  obtain ⟨ta, pa, ha⟩ := ha.ex
  obtain ⟨tb, pb, hb⟩ := hb.ex
  exact ⟨⟨_, pe_callB hc hg hm hv (pa_cons pa (pa_cons pb pa_nil he2) he) hn hdb he hpl, snd2_te hs ha hb⟩⟩
end
/-- len -/
def gLen : Vl → R Vl := fun x => match x.d with
  | .lst l => sc (.int l.length)
  | .lsk l => sc (.int l.length)
  | .tup l => sc (.int l.length)
  | .dct l => sc (.int l.length)
  | .str l => if l.length ≤ 1000000 then sc (.int l.length) else .bad
  | _ => .bad
def rLenA (K : PySem.W.Frag) : List V → Hp → VK → Prop := fun xs H Q => (∃ p ys, xs = [.ref p] ∧ (SqL K H p ys ∨ SqT K H p ys) ∧ Q (.int ys.length) H) ∨ (∃ z : Str, xs = [.str z] ∧ z.length ≤ sizeLine ∧ Q (.int z.length) H) ∨
  ∃ a kvs, xs = [V.ref a] ∧ H a = some (.dK kvs) ∧ Q (.int kvs.length) H
theorem call_lenA {X : Cx} : CallR X (.builtin "len") (rLenA X.K) := CallR.or call_len_seq (CallR.or call_len_str call_lenD)
theorem RepK.length {K : PySem.W.Frag} {T : Tb} {H : Hp} : ∀ {vs : List (Key × V)} {ds : List (Key × D)}, RepK K T H vs ds → vs.length = ds.length
  | _, _, .nil => rfl
  | _, _, .cons _ _ _ _ _ _ r => congrArg (· + 1) (RepK.length r)
theorem dct_of {K : PySem.W.Frag} {T : Tb} {F : Fp} {ρ : En} {σ : L2.St} {Hs H : Hp} (Rf : Fm K T F ρ σ H) {v : V} {a : Vl} {ds : List (Key × D)} (h : RepV K T F ρ σ v a Hs H) (e : a.d = .dct ds) : ∃ p vs, v = .ref p ∧ H p = some (.dK vs) ∧ RepK K T (hpB F ρ σ H a.f) vs ds := by
  have q := h.sh Rf.vH
  obtain ⟨d, m, f⟩ := a
  have e : d = .dct ds := e
  subst e
  exact q
theorem obj_of {K : PySem.W.Frag} {T : Tb} {F : Fp} {ρ : En} {σ : L2.St} {Hs H : Hp} (Rf : Fm K T F ρ σ H) {v : V} {a : Vl} {c : Nat} {ds : List D} (h : RepV K T F ρ σ v a Hs H) (e : a.d = .obj c ds) :
    ∃ p dx vs, v = .ref p ∧ H p = some (.ins (T.ca c) dx ((T.cf c).zip vs)) ∧ Reps K T (hpB F ρ σ H a.f) vs ds ∧ vs.length ≤ (T.cf c).length := by
  have q := h.sh Rf.vH
  obtain ⟨d, m, f⟩ := a
  have e : d = .obj c ds := e
  subst e
  exact q
theorem snd_len {K : PySem.W.Frag} {T : Tb} : Snd1 K T (rLenA K) gLen := fun F ρ σ W Hs H vx x Q Rf q1 hp => by
  unfold gLen at hp
  split at hp
  · rename_i l e
    obtain ⟨p, vs, rfl, h1, h2⟩ := seq_of Rf q1 (by rw [e]; rfl)
    refine .inl ⟨p, vs, rfl, .inl h1, ?_⟩
    rw [h2.length]
    exact hp _ H (Ex.refl _) (Rep.int _)
  · rename_i l e
    obtain ⟨p, vs, rfl, h1, h2⟩ := seq_of Rf q1 (by rw [e]; rfl)
    refine .inl ⟨p, vs, rfl, .inl h1, ?_⟩
    rw [h2.length]
    exact hp _ H (Ex.refl _) (Rep.int _)
  · rename_i l e
    obtain ⟨p, vs, rfl, h1, h2⟩ := tup_of Rf q1 e
    refine .inl ⟨p, vs, rfl, .inr h1, ?_⟩
    rw [h2.length]
    exact hp _ H (Ex.refl _) (Rep.int _)
  · rename_i l e
    obtain ⟨p, vs, rfl, h1, h2⟩ := dct_of Rf q1 e
    refine .inr (.inr ⟨p, vs, rfl, h1, ?_⟩)
    rw [h2.length]
    exact hp _ H (Ex.refl _) (Rep.int _)
  · rename_i l e
    split at hp
    · rename_i hl
      refine .inr (.inl ⟨_, by rw [str_of Rf q1 e], by rw [arr_len]; exact line_of hl, ?_⟩)
      rw [arr_len]
      exact hp _ H (Ex.refl _) (Rep.int _)
    · exact hp.elim
  · exact hp.elim
/-- int -/
def gInt : Vl → R Vl := fun x => match x.d with
  | .int i => sc (.int i)
  | .bl b => sc (.int (if b then 1 else 0))
  | _ => .bad
theorem snd_int {K : PySem.W.Frag} {T : Tb} : Snd1 K T (fun xs H Q => (∃ i, xs = [.int i] ∧ Q (.int i) H) ∨ ∃ k, xs = [.bl k] ∧ Q (.int (if k then 1 else 0)) H) gInt := fun F ρ σ W Hs H vx x Q Rf q1 hp => by
  unfold gInt at hp
  split at hp
  · rename_i i e
    exact .inl ⟨i, by rw [int_of Rf q1 e], hp _ H (Ex.refl _) (Rep.int _)⟩
  · rename_i i e
    exact .inr ⟨i, by rw [bl_of Rf q1 e], hp _ H (Ex.refl _) (Rep.int _)⟩
  · exact hp.elim
/-- the ints, the truth values, the texts of a list -/
def ints? : List D → Option (List Int)
  | [] => some []
  | .int i :: ds => (ints? ds).map (i :: ·)
  | _ :: _ => none
def bls? : List D → Option (List Bool)
  | [] => some []
  | .bl i :: ds => (bls? ds).map (i :: ·)
  | _ :: _ => none
def strs? : List D → Option (List (List Nat))
  | [] => some []
  | .str i :: ds => (strs? ds).map (i :: ·)
  | _ :: _ => none
theorem ints?_eq : ∀ {ds : List D} {ns : List Int}, ints? ds = some ns → ds = ns.map D.int
  | [], ns, e => by
    cases e
    rfl
  | .int i :: ds, ns, e => by
    unfold ints? at e
    obtain ⟨r, h, rfl⟩ := Option.map_eq_some_iff.mp e
    rw [ints?_eq h]
    rfl
  | .non :: _, _, e => by cases e
  | .bl _ :: _, _, e => by cases e
  | .str _ :: _, _, e => by cases e
  | .lst _ :: _, _, e => by cases e
  | .lsk _ :: _, _, e => by cases e
  | .tup _ :: _, _, e => by cases e
  | .dct _ :: _, _, e => by cases e
  | .obj _ _ :: _, _, e => by cases e
theorem bls?_eq : ∀ {ds : List D} {ns : List Bool}, bls? ds = some ns → ds = ns.map D.bl
  | [], ns, e => by
    cases e
    rfl
  | .bl i :: ds, ns, e => by
    unfold bls? at e
    obtain ⟨r, h, rfl⟩ := Option.map_eq_some_iff.mp e
    rw [bls?_eq h]
    rfl
  | .non :: _, _, e => by cases e
  | .int _ :: _, _, e => by cases e
  | .str _ :: _, _, e => by cases e
  | .lst _ :: _, _, e => by cases e
  | .lsk _ :: _, _, e => by cases e
  | .tup _ :: _, _, e => by cases e
  | .dct _ :: _, _, e => by cases e
  | .obj _ _ :: _, _, e => by cases e
theorem strs?_eq : ∀ {ds : List D} {ns : List (List Nat)}, strs? ds = some ns → ds = ns.map D.str
  | [], ns, e => by
    cases e
    rfl
  | .str i :: ds, ns, e => by
    unfold strs? at e
    obtain ⟨r, h, rfl⟩ := Option.map_eq_some_iff.mp e
    rw [strs?_eq h]
    rfl
  | .non :: _, _, e => by cases e
  | .int _ :: _, _, e => by cases e
  | .bl _ :: _, _, e => by cases e
  | .lst _ :: _, _, e => by cases e
  | .lsk _ :: _, _, e => by cases e
  | .tup _ :: _, _, e => by cases e
  | .dct _ :: _, _, e => by cases e
  | .obj _ _ :: _, _, e => by cases e
theorem ints?_map (ns : List Int) : ints? (ns.map D.int) = some ns := by
  induction ns with
  | nil => rfl
  | cons n r ih => rw [List.map_cons]; unfold ints?; rw [ih]; rfl
theorem bls?_map (ns : List Bool) : bls? (ns.map D.bl) = some ns := by
  induction ns with
  | nil => rfl
  | cons n r ih => rw [List.map_cons]; unfold bls?; rw [ih]; rfl
theorem strs?_map (ns : List (List Nat)) : strs? (ns.map D.str) = some ns := by
  induction ns with
  | nil => rfl
  | cons n r ih => rw [List.map_cons]; unfold strs?; rw [ih]; rfl
theorem reps_ints {K : PySem.W.Frag} {T : Tb} {H : Hp} : ∀ {vs : List V} {ns : List Int}, Reps K T H vs (ns.map D.int) → vs = ns.map V.int
  | _, [], .nil => rfl
  | _, n :: ns, .cons _ _ _ _ h r => by
    cases h
    rw [reps_ints r]
    rfl
theorem reps_bls {K : PySem.W.Frag} {T : Tb} {H : Hp} : ∀ {vs : List V} {ns : List Bool}, Reps K T H vs (ns.map D.bl) → vs = ns.map V.bl
  | _, [], .nil => rfl
  | _, n :: ns, .cons _ _ _ _ h r => by
    cases h
    rw [reps_bls r]
    rfl
theorem reps_strs {K : PySem.W.Frag} {T : Tb} {H : Hp} : ∀ {vs : List V} {ns : List (List Nat)}, Reps K T H vs (ns.map D.str) → vs = (ns.map fun l => (⟨l.toArray⟩ : Str)).map V.str
  | _, [], .nil => rfl
  | _, n :: ns, .cons _ _ _ _ h r => by
    cases h
    rw [reps_strs r]
    rfl
theorem int_reps {K : PySem.W.Frag} {T : Tb} {H : Hp} : ∀ (ns : List Int), Reps K T H (ns.map V.int) (ns.map D.int)
  | [] => .nil
  | n :: ns => .cons _ _ _ _ (.int n) (int_reps ns)
def gSum : Vl → R Vl := fun x => ofO (seq? x.d) fun l => ofO (ints? l) fun ns => sc (.int ns.sum)
theorem snd_sum {K : PySem.W.Frag} {T : Tb} : Snd1 K T (rSum K) gSum := fun F ρ σ W Hs H vx x Q Rf q1 hp => by
  obtain ⟨l, h1, hp⟩ := Pst.ofO hp
  obtain ⟨ns, h2, hp⟩ := Pst.ofO hp
  obtain ⟨p, vs, rfl, h3, h4⟩ := seq_of Rf q1 h1
  rw [ints?_eq h2] at h4
  rw [reps_ints h4] at h3
  exact ⟨p, ns, rfl, h3, hp _ H (Ex.refl _) (Rep.int _)⟩
def gAll : Vl → R Vl := fun x => ofO (seq? x.d) fun l => ofO (bls? l) fun ns => sc (.bl (ns.all id))
def gAny : Vl → R Vl := fun x => ofO (seq? x.d) fun l => ofO (bls? l) fun ns => sc (.bl (ns.any id))
theorem snd_all {K : PySem.W.Frag} {T : Tb} : Snd1 K T (rAll K) gAll := fun F ρ σ W Hs H vx x Q Rf q1 hp => by
  obtain ⟨l, h1, hp⟩ := Pst.ofO hp
  obtain ⟨ns, h2, hp⟩ := Pst.ofO hp
  obtain ⟨p, vs, rfl, h3, h4⟩ := seq_of Rf q1 h1
  rw [bls?_eq h2] at h4
  rw [reps_bls h4] at h3
  exact ⟨p, ns, rfl, h3, hp _ H (Ex.refl _) (Rep.bl _)⟩
theorem snd_any {K : PySem.W.Frag} {T : Tb} : Snd1 K T (rAny K) gAny := fun F ρ σ W Hs H vx x Q Rf q1 hp => by
  obtain ⟨l, h1, hp⟩ := Pst.ofO hp
  obtain ⟨ns, h2, hp⟩ := Pst.ofO hp
  obtain ⟨p, vs, rfl, h3, h4⟩ := seq_of Rf q1 h1
  rw [bls?_eq h2] at h4
  rw [reps_bls h4] at h3
  exact ⟨p, ns, rfl, h3, hp _ H (Ex.refl _) (Rep.bl _)⟩
/-- list(x), tuple(x) -/
def gList : Vl → R Vl := fun x => ofO (items? x.d) fun l => .ok ⟨.lst l, .nw, x.f⟩
theorem snd_list {K : PySem.W.Frag} {T : Tb} : Snd1 K T (fun xs H Q => ∃ p ys, xs = [.ref p] ∧ (SqL K H p ys ∨ SqT K H p ys) ∧ ∀ l, H l = none → Q (.ref l) (upd H l (.lst ys))) gList := fun F ρ σ W Hs H vx x Q Rf q1 hp => by
  obtain ⟨l, h1, hp⟩ := Pst.ofO hp
  obtain ⟨p, vs, rfl, h3, h4⟩ := items_of Rf q1 h1
  exact ⟨p, vs, rfl, h3, fun c hc => hp _ _ (Ex.new hc) (born_lst Rf hc (Ex.new hc) upd_same h4 (Ex.refl _))⟩
def gTuple : Vl → R Vl := fun x => match x.d with
  | .lst l => .ok ⟨.tup l, .pl, x.f⟩
  | .lsk l => .ok ⟨.tup l, .pl, x.f⟩
  | .tup l => .ok ⟨.tup l, .pl, x.f⟩
  | _ => .bad
theorem snd_tuple {K : PySem.W.Frag} {T : Tb} : Snd1 K T (fun xs H Q => ∃ p ys, xs = [.ref p] ∧ ((SqL K H p ys ∧ ∀ l, H l = none → Q (.ref l) (upd H l (.tup ys))) ∨ (SqT K H p ys ∧ Q (.ref p) H))) gTuple := fun F ρ σ W Hs H vx x Q Rf q1 hp => by
  unfold gTuple at hp
  split at hp
  · rename_i l e
    obtain ⟨p, vs, rfl, h1, h2⟩ := seq_of Rf q1 (by rw [e]; rfl)
    exact ⟨p, vs, rfl, .inl ⟨h1, fun c hc => hp _ _ (Ex.new hc) (born_tup Rf hc (Ex.new hc) upd_same h2)⟩⟩
  · rename_i l e
    obtain ⟨p, vs, rfl, h1, h2⟩ := seq_of Rf q1 (by rw [e]; rfl)
    exact ⟨p, vs, rfl, .inl ⟨h1, fun c hc => hp _ _ (Ex.new hc) (born_tup Rf hc (Ex.new hc) upd_same h2)⟩⟩
  · rename_i l e
    have q := q1.sh Rf.vH
    rw [e] at q
    have q3 : Rep K T (hpB F ρ σ H x.f) vx (.tup l) := q
    obtain ⟨p, vs, rfl, h1, h2⟩ := tup_of Rf q1 e
    exact ⟨p, vs, rfl, .inr ⟨h1, hp _ H (Ex.refl _) q3⟩⟩
  · exact hp.elim
/-- sorted(dict) of int keys, in order -/
def ins (i : Int) : List Int → List Int
  | [] => [i]
  | j :: r => if i ≤ j then i :: j :: r else j :: ins i r
def isort : List Int → List Int
  | [] => []
  | i :: r => ins i (isort r)
theorem ins_perm (i : Int) : ∀ l : List Int, (ins i l).Perm (i :: l)
  | [] => .refl _
  | j :: r => by
    unfold ins
    split
    · exact .refl _
    · exact ((ins_perm i r).cons j).trans (.swap i j r)
theorem isort_perm : ∀ l : List Int, (isort l).Perm l
  | [] => .refl _
  | i :: r => (ins_perm i _).trans ((isort_perm r).cons i)
theorem ins_pw (i : Int) : ∀ l : List Int, l.Pairwise (· ≤ ·) → (ins i l).Pairwise (· ≤ ·)
  | [], _ => List.pairwise_singleton _ _
  | j :: r, h => by
    unfold ins
    obtain ⟨h1, h2⟩ := List.pairwise_cons.mp h
    split
    · rename_i hij
      refine List.pairwise_cons.mpr ⟨fun b hb => ?_, h⟩
      rcases List.mem_cons.mp hb with rfl | hb
      · exact hij
      · exact Int.le_trans hij (h1 b hb)
    · rename_i hij
      refine List.pairwise_cons.mpr ⟨fun b hb => ?_, ins_pw i r h2⟩
      rcases List.mem_cons.mp ((ins_perm i r).mem_iff.mp hb) with rfl | hb
      · omega
      · exact h1 b hb
theorem isort_pw : ∀ l : List Int, (isort l).Pairwise (· ≤ ·)
  | [] => .nil
  | i :: r => ins_pw i _ (isort_pw r)
theorem sort_eq {a l : List Int} (p : a.Perm l) (h : a.Pairwise (· ≤ ·)) : a = isort l := PySem.W.lks_uniq (p.trans (isort_perm l).symm) h (isort_pw l)
def keysI : List (Key × D) → Option (List Int)
  | [] => some []
  | (.inl i, _) :: r => (keysI r).map (i :: ·)
  | (.inr _, _) :: _ => none
theorem keysI_eq {K : PySem.W.Frag} {T : Tb} {H : Hp} : ∀ {kvs : List (Key × V)} {kds : List (Key × D)} {ks : List Int}, RepK K T H kvs kds → keysI kds = some ks → kvs.map (·.1) = ks.map Sum.inl
  | _, _, ks, .nil, e => by
    cases e
    rfl
  | _, _, ks, .cons k v d vs ds h r, e => by
    cases k with
    | inr _ => cases e
    | inl i =>
      unfold keysI at e
      obtain ⟨q, h1, rfl⟩ := Option.map_eq_some_iff.mp e
      rw [List.map_cons, List.map_cons, keysI_eq r h1]
def gSortedD : Vl → R Vl := fun x => match x.d with
  | .dct l => ofO (keysI l) fun ks => if ks.length < 64 then .ok ⟨.lst ((isort ks).map D.int), .nw, true⟩ else .bad
  | _ => .bad
theorem snd_sortedD {K : PySem.W.Frag} {T : Tb} : Snd1 K T (fun xs H Q => ∃ (a : Addr) (kvs : List (Key × V)) (ks : List Int), xs = [.ref a] ∧ Rd H a (.dK kvs) ∧ kvs.map (·.1) = ks.map Sum.inl ∧ ks.length < 64 ∧
    ∀ (ys : List Int) (p : Addr), ys.Perm ks → ys.Pairwise (· ≤ ·) → H p = none → Q (.ref p) (upd H p (.lst (ys.map V.int)))) gSortedD := fun F ρ σ W Hs H vx x Q Rf q1 hp => by
  unfold gSortedD at hp
  split at hp
  · rename_i l e
    obtain ⟨ks, h1, h2⟩ := Pst.ofO hp
    split at h2
    · rename_i hl
      obtain ⟨p, vs, rfl, h3, h4⟩ := dct_of Rf q1 e
      refine ⟨p, vs, ks, rfl, .inl h3, keysI_eq h4 h1, hl, fun ys c hp1 hp2 hc => ?_⟩
      rw [sort_eq hp1 hp2]
      exact h2 _ _ (Ex.new hc) (born_lst Rf hc (Ex.new hc) upd_same (int_reps _) (Ex.refl _))
    · exact h2.elim
  · exact hp.elim
/-- sorted(list of ints), fewer than 64 -/
def gSortedI : Vl → R Vl := fun x => ofO (seq? x.d) fun l => ofO (ints? l) fun ns => if ns.length < 64 then .ok ⟨.lst ((isort ns).map D.int), .nw, true⟩ else .bad
theorem snd_sortedI {K : PySem.W.Frag} {T : Tb} : Snd1 K T (rSorted K) gSortedI := fun F ρ σ W Hs H vx x Q Rf q1 hp => by
  obtain ⟨l, h1, hp⟩ := Pst.ofO hp
  obtain ⟨ns, h2, hp⟩ := Pst.ofO hp
  split at hp
  · rename_i hl
    obtain ⟨p, vs, rfl, h3, h4⟩ := seq_of Rf q1 h1
    rw [ints?_eq h2] at h4
    rw [reps_ints h4] at h3
    refine ⟨p, ns, rfl, h3, hl, fun ys c hp1 hp2 hc => ?_⟩
    rw [sort_eq hp1 hp2]
    exact hp _ _ (Ex.new hc) (born_lst Rf hc (Ex.new hc) upd_same (int_reps _) (Ex.refl _))
  · exact hp.elim
/-- max, min of two ints -/
def gMax2 := iop fun i j => some (if j > i then j else i)
def gMin2 := iop fun i j => some (if j < i then j else i)
theorem snd_max2 {K : PySem.W.Frag} {T : Tb} : Snd2 K T (fun xs H Q => ∃ i j, xs = [.int i, .int j] ∧ Q (.int (if j > i then j else i)) H) gMax2 := fun F ρ σ W Hs H vx vy x y Q Rf q1 q2 hp => by
  unfold gMax2 iop at hp
  split at hp
  · rename_i i j e1 e2
    exact ⟨i, j, by rw [int_of Rf q1 e1, int_of Rf q2 e2], hp _ H (Ex.refl _) (Rep.int _)⟩
  · exact hp.elim
theorem snd_min2 {K : PySem.W.Frag} {T : Tb} : Snd2 K T (fun xs H Q => ∃ i j, xs = [.int i, .int j] ∧ Q (.int (if j < i then j else i)) H) gMin2 := fun F ρ σ W Hs H vx vy x y Q Rf q1 q2 hp => by
  unfold gMin2 iop at hp
  split at hp
  · rename_i i j e1 e2
    exact ⟨i, j, by rw [int_of Rf q1 e1, int_of Rf q2 e2], hp _ H (Ex.refl _) (Rep.int _)⟩
  · exact hp.elim
def gDivmod : Vl → Vl → R Vl := fun x y => match x.d, y.d with
  | .int i, .int j => if 0 < j ∧ j < 1073741824 then .ok ⟨.tup [.int (i / j), .int (i % j)], .pl, true⟩ else .bad
  | _, _ => .bad
theorem snd_divmod {K : PySem.W.Frag} {T : Tb} : Snd2 K T (fun xs H Q => ∃ i j, xs = [.int i, .int j] ∧ CDiv i j ∧ ∀ p, H p = none → Q (.ref p) (upd H p (.tup [.int (i / j), .int (i % j)]))) gDivmod := fun F ρ σ W Hs H vx vy x y Q Rf q1 q2 hp => by
  unfold gDivmod at hp
  split at hp
  · rename_i i j e1 e2
    split at hp
    · rename_i hc
      refine ⟨i, j, by rw [int_of Rf q1 e1, int_of Rf q2 e2], hc, fun p hp' => hp _ _ (Ex.new hp') (born_tup Rf hp' (Ex.new hp') upd_same (.cons _ _ _ _ (.int _) (.cons _ _ _ _ (.int _) .nil)))⟩
    · exact hp.elim
  · exact hp.elim

/-! ### join -/
def joinD (sep : List Nat) : List (List Nat) → List Nat
  | [] => []
  | [x] => x
  | x :: r => x ++ sep ++ joinD sep r
theorem join_str (sep : List Nat) : ∀ ys : List (List Nat), Str.join ⟨sep.toArray⟩ (ys.map fun l => (⟨l.toArray⟩ : Str)) = ⟨(joinD sep ys).toArray⟩
  | [] => rfl
  | [x] => rfl
  | x :: z :: r => by
    show (⟨x.toArray⟩ : Str) ++ (⟨sep.toArray⟩ : Str) ++ Str.join ⟨sep.toArray⟩ ((z :: r).map fun l => (⟨l.toArray⟩ : Str)) = _
    rw [join_str sep (z :: r), arr_app, arr_app]
    rfl
def str? (a : Vl) : Option (List Nat) := match a.d with
  | .str s => some s
  | _ => none
theorem str?_eq {a : Vl} {s : List Nat} (h : str? a = some s) : a.d = .str s := by
  unfold str? at h
  split at h
  · rename_i e
    cases h
    exact e
  · cases h
def gJoin (s : List Nat) (y : Vl) : R Vl := ofO (items? y.d) fun l => ofO (strs? l) fun ys => if (ys.map (·.length)).sum + ys.length * s.length ≤ 1000000 then sc (.str (joinD s ys)) else .bad
def eJoin (f1 f2 : En → R Vl) : En → R Vl := fun ρ => (f1 ρ).bind fun x => ofO (str? x) fun s => (f2 ρ).bind fun y => gJoin s y
theorem q_join {X : Cx} {T : Tb} {W : WX} {a e : Expr} {f1 f2 : En → R Vl} {pos apos : Pos} (ho : QE X T W a f1) (he : QE X T W e f2) (hs : starEach [e] X.env = [(false, eval e X.env)] := by rfl) (hbase : attributeBase a "join" X.env (eval a X.env) = eval a X.env := by rfl) (hline : (apos.endLine == pos.line) = true := by rfl) :
    QE X T W (.Call (.Attribute a "join" apos) [e] [] pos) (eJoin f1 f2) := by
  obtain ⟨ta, pa, ha⟩ := ho.ex
  obtain ⟨tb, pb, hb⟩ := he.ex
  refine ⟨⟨_, pe_join pa pb hs hbase hline, fun F ρ σ H Rf Q h => ?_⟩⟩
  refine ha F ρ σ H Rf _ (h.bind (stE _) fun x vx H1 _ e1 q1 h1 => ?_)
  obtain ⟨s, hx, h1⟩ := Pst.ofO h1
  refine ⟨⟨_, str_of (Rf.mono e1) q1 (str?_eq hx)⟩, ?_⟩
  refine hb F ρ σ H1 (Rf.mono e1) _ (h1.bind (stE _) fun y vy H2 _ e2 q2 h2 => ?_)
  obtain ⟨l, h3, h2⟩ := Pst.ofO h2
  obtain ⟨ys, h4, h2⟩ := Pst.ofO h2
  split at h2
  · rename_i hl
    obtain ⟨p, vs, rfl, h5, h6⟩ := items_of (Rf.mono (e1.trans e2)) q2 h3
    rw [strs?_eq h4] at h6
    rw [reps_strs h6] at h5
    refine ⟨_, p, _, str_of (Rf.mono e1) q1 (str?_eq hx), rfl, h5, ?_, ?_⟩
    · rw [List.map_map, List.length_map, arr_len]
      have e : (ys.map ((fun x : Str => x.length) ∘ fun l => (⟨l.toArray⟩ : Str))) = ys.map (·.length) := List.map_congr_left fun l _ => arr_len l
      have e2 : (List.map ((·.length) ∘ fun l => ({ cps := l.toArray } : Str)) ys) = ys.map (·.length) := e
      rw [e2]
      omega
    · have e : Txt.join (⟨s.toArray⟩ : Str) (ys.map fun l => (⟨l.toArray⟩ : Str)) = ⟨(joinD s ys).toArray⟩ := (TL.join_eq _ _).trans (join_str s ys)
      rw [e]
      exact h2 _ H2 (Ex.refl _) (Rep.str _)
  · exact h2.elim
/-! ### attributes -/
/-- what is known of the class c -/
structure ClOk (K : PySem.W.Frag) (T : Tb) (c : Nat) : Prop where
  cl : Cls K (T.ca c)
  na : ∀ f ∈ T.cf c, NoAttr K (T.ca c) f
  nd : (T.cf c).Nodup
  few : (T.cf c).length < 1000
theorem zip_lookup : ∀ {N : List Str} {vs : List V} {k : Nat} {f : Str} {v : V}, N.Nodup → N[k]? = some f → vs[k]? = some v → (N.zip vs).lookup f = some v
  | [], _, _, _, _, _, h, _ => by simp at h
  | n :: N, [], _, _, _, _, _, h => by simp at h
  | n :: N, w :: vs, 0, f, v, _, h1, h2 => by
    simp at h1 h2
    subst h1 h2
    simp [List.lookup]
  | n :: N, w :: vs, k + 1, f, v, nd, h1, h2 => by
    have h1' : N[k]? = some f := by simpa using h1
    have h2' : vs[k]? = some v := by simpa using h2
    obtain ⟨n1, n2⟩ := List.nodup_cons.mp nd
    have ne : f ≠ n := fun z => n1 (z ▸ List.mem_of_getElem? h1')
    have ih := zip_lookup n2 h1' h2'
    rw [List.zip_cons_cons, List.lookup_cons]
    have e : (f == n) = false := by simpa using ne
    rw [e]
    exact ih
def gFld (tab : List (Nat × Nat)) : Vl → R Vl := fun x => match x.d with
  | .obj c l => ofO (tab.lookup c) fun k => ofO l[k]? fun d => pl d x.f
  | _ => .bad
theorem mem_look {tab : List (Nat × Nat)} {c k : Nat} (h : tab.lookup c = some k) : (c, k) ∈ tab := by
  induction tab with
  | nil => cases h
  | cons p r ih =>
    obtain ⟨a, b⟩ := p
    rw [List.lookup_cons] at h
    cases e : c == a with
    | true =>
      rw [e] at h
      cases h
      rw [beq_iff_eq.mp e]
      exact List.mem_cons_self ..
    | false =>
      rw [e] at h
      exact List.mem_cons_of_mem _ (ih h)
theorem q_fld {X : Cx} {T : Tb} {W : WX} {e : Expr} {f : En → R Vl} {m : Str} {pos : Pos} (tab : List (Nat × Nat)) (ht : ∀ p ∈ tab, ClOk X.K T p.1 ∧ (T.cf p.1)[p.2]? = some m) (he : QE X T W e f) (hb : attributeBase e m X.env (eval e X.env) = eval e X.env := by rfl) :
    QE X T W (.Attribute e m pos) (e1 (gFld tab) f) := by
  obtain ⟨ta, pa, ha⟩ := he.ex
  refine ⟨⟨_, pe_fld pa hb, fun F ρ σ H Rf Q h => ?_⟩⟩
  refine ha F ρ σ H Rf _ (h.bind (stE _) fun x vx H1 _ e1 q1 h1 => ?_)
  unfold gFld at h1
  split at h1
  · rename_i c l e
    obtain ⟨k, h2, h1⟩ := Pst.ofO h1
    obtain ⟨d, h3, h1⟩ := Pst.ofO h1
    obtain ⟨o, hm⟩ := ht _ (mem_look h2)
    obtain ⟨p, dx, vs, rfl, h4, h5, h6⟩ := obj_of (Rf.mono e1) q1 e
    obtain ⟨v, h7, h8⟩ := h5.get h3
    have hm' : (T.cf c)[k]? = some m := hm
    exact ⟨p, _, dx, _, v, rfl, h4, o.cl, o.na m (List.mem_of_getElem? hm'), zip_lookup o.nd hm' h7, pl_put h1 h8⟩
  · exact h1.elim
/-! ### dicts -/
def key? (a : Vl) : Option Key := match a.d with
  | .int i => some (.inl i)
  | .str s => some (.inr ⟨s.toArray⟩)
  | _ => none
theorem key?_v {K : PySem.W.Frag} {T : Tb} {F : Fp} {ρ : En} {σ : L2.St} {Hs H : Hp} (Rf : Fm K T F ρ σ H) {v : V} {a : Vl} {k : Key} (h : RepV K T F ρ σ v a Hs H) (e : key? a = some k) : v = kV k := by
  unfold key? at e
  split at e
  · rename_i i e2
    cases e
    exact int_of Rf h e2
  · rename_i i e2
    cases e
    exact str_of Rf h e2
  · cases e
def valD (kds : List (Key × D)) (k : Key) : Option D := (kds.find? fun kv => decide (kv.1 = k)).map (·.2)
def putD (kds : List (Key × D)) (k : Key) (d : D) : List (Key × D) :=
  if (kds.any fun kv => decide (kv.1 = k)) = true then kds.map (fun kv => if kv.1 = k then (kv.1, d) else kv) else kds ++ [(k, d)]
theorem repK_val {K : PySem.W.Frag} {T : Tb} {H : Hp} {k : Key} : ∀ {vs : List (Key × V)} {ds : List (Key × D)}, RepK K T H vs ds → (valD ds k = none ∧ valV vs k = none) ∨ ∃ d v, valD ds k = some d ∧ valV vs k = some v ∧ Rep K T H v d
  | _, _, .nil => .inl ⟨rfl, rfl⟩
  | _, _, .cons k' v d vs ds h r => by
    by_cases e : k' = k
    · refine .inr ⟨d, v, ?_, ?_, h⟩
      · simp [valD, e]
      · simp [valV, e]
    · have ih := repK_val (k := k) r
      simpa [valD, valV, e] using ih
theorem repK_any {K : PySem.W.Frag} {T : Tb} {H : Hp} {k : Key} : ∀ {vs : List (Key × V)} {ds : List (Key × D)}, RepK K T H vs ds → (vs.any fun kv => decide (kv.1 = k)) = ds.any fun kv => decide (kv.1 = k)
  | _, _, .nil => rfl
  | _, _, .cons k' v d vs ds h r => by
    rw [List.any_cons, List.any_cons, repK_any r]
theorem RepK.app {K : PySem.W.Frag} {T : Tb} {H : Hp} {k : Key} {v : V} {d : D} (q : Rep K T H v d) : ∀ {vs : List (Key × V)} {ds : List (Key × D)}, RepK K T H vs ds → RepK K T H (vs ++ [(k, v)]) (ds ++ [(k, d)])
  | _, _, .nil => .cons _ _ _ _ _ q .nil
  | _, _, .cons k' v d vs ds h r => .cons _ _ _ _ _ h (RepK.app q r)
theorem RepK.upd {K : PySem.W.Frag} {T : Tb} {H : Hp} {k : Key} {v : V} {d : D} (q : Rep K T H v d) : ∀ {vs : List (Key × V)} {ds : List (Key × D)}, RepK K T H vs ds → RepK K T H (vs.map fun kv => if kv.1 = k then (kv.1, v) else kv) (ds.map fun kv => if kv.1 = k then (kv.1, d) else kv)
  | _, _, .nil => .nil
  | _, _, .cons k' v' d' vs ds h r => by
    have ih := RepK.upd (k := k) q r
    rw [List.map_cons, List.map_cons]
    by_cases e : k' = k
    · rw [if_pos (show ((k', v') : Key × V).1 = k from e), if_pos (show ((k', d') : Key × D).1 = k from e)]
      exact .cons _ _ _ _ _ q ih
    · rw [if_neg (show ¬ ((k', v') : Key × V).1 = k from e), if_neg (show ¬ ((k', d') : Key × D).1 = k from e)]
      exact .cons _ _ _ _ _ h ih
theorem RepK.put {K : PySem.W.Frag} {T : Tb} {H : Hp} {k : Key} {v : V} {d : D} {vs : List (Key × V)} {ds : List (Key × D)} (q : Rep K T H v d) (r : RepK K T H vs ds) : RepK K T H (putK vs k v) (putD ds k d) := by
  unfold putK putD
  rw [repK_any r]
  split
  · exact RepK.upd q r
  · exact RepK.app q r
def dct? (a : Vl) : Option (List (Key × D)) := match a.d with
  | .dct l => some l
  | _ => none
theorem dct?_eq {a : Vl} {s : List (Key × D)} (h : dct? a = some s) : a.d = .dct s := by
  unfold dct? at h
  split at h
  · rename_i e
    cases h
    exact e
  · cases h
/-- {} -/
def eDnew : En → R Vl := fun _ => .ok ⟨.dct [], .nw, true⟩
theorem q_dnew {X : Cx} {T : Tb} {W : WX} {pos : Pos} : QE X T W (.Dict [] [] pos) eDnew := ⟨⟨_, pe_dnewK, fun F ρ σ H Rf Q h => fun c hc => h _ _ (Ex.new hc) ⟨c, rfl, hc, (Rf.nohid hc).2, (Rf.nohid hc).1, rfl, c, [], rfl, upd_same, .nil⟩⟩⟩
/-- d.get(k, x) -/
def eGet2 (f1 f2 f3 : En → R Vl) : En → R Vl := fun ρ => (f1 ρ).bind fun x => ofO (dct? x) fun l => (f2 ρ).bind fun y => (f3 ρ).bind fun z => ofO (key? y) fun k => match valD l k with
  | some d => pl d x.f
  | none => match z.m with
    | .bo => .bad
    | _ => pl z.d z.f
theorem q_get2 {X : Cx} {T : Tb} {W : WX} {a b e : Expr} {f1 f2 f3 : En → R Vl} {pos apos : Pos} (hu : X.A.units + 1 < cLine) (ha : QE X T W a f1) (hb : QE X T W b f2) (he : QE X T W e f3) (m : M2 X a "get" apos b e pos) : QE X T W (.Call (.Attribute a "get" apos) [b, e] [] pos) (eGet2 f1 f2 f3) := by
  obtain ⟨ta, pa, ha⟩ := ha.ex
  obtain ⟨tb, pb, hb⟩ := hb.ex
  obtain ⟨te, pe', he⟩ := he.ex
  refine ⟨⟨_, pe_dget2 hu pa pb pe' m, fun F ρ σ H Rf Q h => ?_⟩⟩
  refine ha F ρ σ H Rf _ (h.bind (stE _) fun x vx H1 _ e1 q1 h1 => ?_)
  obtain ⟨l, hx, h1⟩ := Pst.ofO h1
  obtain ⟨p, vs, rfl, h4, h5⟩ := dct_of (Rf.mono e1) q1 (dct?_eq hx)
  refine ⟨p, rfl, .inl ⟨vs, .inl h4⟩, ?_⟩
  refine hb F ρ σ H1 (Rf.mono e1) _ (h1.bind (stE _) fun y vy H2 _ e2 q2 h2 => ?_)
  refine he F ρ σ H2 (Rf.mono (e1.trans e2)) _ (h2.bind (stE _) fun z vz H3 _ e3 q3 h3 => ?_)
  have Rf3 := Rf.mono (e1.trans (e2.trans e3))
  obtain ⟨k, hk, h3⟩ := Pst.ofO h3
  have q2' := RepV.mono (Ex.refl _) e3 q2
  obtain rfl := key?_v Rf3 q2' hk
  refine ⟨_, DGet.k (k := k) (e3 _ _ (e2 _ _ h4)), ?_⟩
  rcases repK_val (k := k) (h5.mono (hp_mono (e2.trans e3))) with ⟨n1, n2⟩ | ⟨d, v, n1, n2, n3⟩
  · rw [n1] at h3
    rw [n2]
    have hz : z.m ≠ .bo ∧ Pst ⟨X.K, T, F, ρ, σ, W⟩ (relE ⟨X.K, T, F, ρ, σ, W⟩) (pl z.d z.f) H3 Q := by
      cases hm : z.m with
      | bo => simp only [hm] at h3; exact h3.elim
      | pl => simp only [hm] at h3; exact ⟨by simp, h3⟩
      | nw => simp only [hm] at h3; exact ⟨by simp, h3⟩
    exact pl_put hz.2 (q3.pl hz.1)
  · rw [n1] at h3
    rw [n2]
    exact pl_put h3 n3
/-- d[k] -/
def eDget (f1 f2 : En → R Vl) : En → R Vl := fun ρ => (f1 ρ).bind fun x => (f2 ρ).bind fun y => ofO (dct? x) fun l => ofO (key? y) fun k => ofO (valD l k) fun d => pl d x.f
theorem q_dget {X : Cx} {T : Tb} {W : WX} {a b : Expr} {f1 f2 : En → R Vl} {pos : Pos} (hu : X.A.units + 1 < cLine) (ha : QE X T W a f1) (hb : QE X T W b f2) (hs : NoSl b := by exact fun _ _ => rfl) : QE X T W (.Subscript a b pos) (eDget f1 f2) := by
  obtain ⟨ta, pa, ha⟩ := ha.ex
  obtain ⟨tb, pb, hb⟩ := hb.ex
  refine ⟨⟨_, pe_dget hu pa pb hs, fun F ρ σ H Rf Q h => ?_⟩⟩
  refine ha F ρ σ H Rf _ (h.bind (stE _) fun x vx H1 _ e1 q1 h1 => ?_)
  refine hb F ρ σ H1 (Rf.mono e1) _ (h1.bind (stE _) fun y vy H2 _ e2 q2 h2 => ?_)
  have Rf2 := Rf.mono (e1.trans e2)
  obtain ⟨l, hx, h2⟩ := Pst.ofO h2
  obtain ⟨k, hk, h2⟩ := Pst.ofO h2
  obtain ⟨d, hd, h2⟩ := Pst.ofO h2
  obtain ⟨p, vs, rfl, h4, h5⟩ := dct_of Rf2 (RepV.mono (Ex.refl _) e2 q1) (dct?_eq hx)
  obtain rfl := key?_v Rf2 q2 hk
  rcases repK_val (k := k) h5 with ⟨n1, n2⟩ | ⟨d', v, n1, n2, n3⟩
  · rw [n1] at hd
    cases hd
  · rw [n1] at hd
    cases hd
    have g := DGet.k (k := k) h4
    rw [n2] at g
    exact ⟨p, v, rfl, g, pl_put h2 n3⟩
end Ev
set_option maxHeartbeats 1000000
/-! Ev5: statements. -/
namespace Ev
open PySem L2

section
variable {K : PySem.W.Frag} {T : Tb} {F F' : Fp} {ρ ρ' : En} {σ σ' : L2.St} {H H1 H' Hs : Hp}
theorem vis_sub (h0 : F'.H0 = F.H0) (v0 : F'.V0 = F.V0) (hh : ∀ a, Hid F' ρ' σ' a → Hid F ρ σ a) : Ex (visB F ρ σ H) (visB F' ρ' σ' H) := fun a o e => by
  by_cases h : Hid F ρ σ a
  · rw [visB_hid h] at e
    cases e
  · have h2 : ¬ Hid F' ρ' σ' a := fun z => h (hh a z)
    cases q : F.H0 a with
    | none =>
      rw [visB_new h q] at e
      rw [visB_new h2 (by rw [h0]; exact q)]
      exact e
    | some x =>
      rw [visB_old h q] at e
      rw [visB_old h2 (by rw [h0]; exact q), v0]
      exact e
theorem new_sub (h0 : F'.H0 = F.H0) (hh : ∀ a, Hid F' ρ' σ' a → Hid F ρ σ a) : Ex (newB F ρ σ H) (newB F' ρ' σ' H) := fun a o e => by
  by_cases h : Hid F ρ σ a
  · rw [newB_hid h] at e
    cases e
  · have h2 : ¬ Hid F' ρ' σ' a := fun z => h (hh a z)
    cases q : F.H0 a with
    | none =>
      rw [newB_new h q] at e
      rw [newB_new h2 (by rw [h0]; exact q)]
      exact e
    | some x =>
      rw [newB_old q] at e
      cases e
theorem hp_sub {f : Bool} (h0 : F'.H0 = F.H0) (v0 : F'.V0 = F.V0) (hh : ∀ a, Hid F' ρ' σ' a → Hid F ρ σ a) : Ex (hpB F ρ σ H f) (hpB F' ρ' σ' H f) := by
  cases f with
  | true => exact new_sub h0 hh
  | false => exact vis_sub h0 v0 hh
/-- a hidden place is written: nothing seen changes -/
theorem vis_upd {p : Addr} {o : HO} (h : Hid F ρ σ p) : Ex (visB F ρ σ H) (visB F ρ σ (upd H p o)) := fun a u e => by
  by_cases ha : Hid F ρ σ a
  · rw [visB_hid ha] at e
    cases e
  · have ne : a ≠ p := fun z => ha (z ▸ h)
    cases q : F.H0 a with
    | none =>
      rw [visB_new ha q] at e ⊢
      rw [upd_ne ne]
      exact e
    | some x =>
      rw [visB_old ha q] at e ⊢
      exact e
theorem new_upd {p : Addr} {o : HO} (h : Hid F ρ σ p) : Ex (newB F ρ σ H) (newB F ρ σ (upd H p o)) := fun a u e => by
  by_cases ha : Hid F ρ σ a
  · rw [newB_hid ha] at e
    cases e
  · have ne : a ≠ p := fun z => ha (z ▸ h)
    cases q : F.H0 a with
    | none =>
      rw [newB_new ha q] at e ⊢
      rw [upd_ne ne]
      exact e
    | some x =>
      rw [newB_old q] at e
      cases e
theorem hp_upd {f : Bool} {p : Addr} {o : HO} (h : Hid F ρ σ p) : Ex (hpB F ρ σ H f) (hpB F ρ σ (upd H p o) f) := by
  cases f with
  | true => exact new_upd h
  | false => exact vis_upd h
/-- what is new and seen stays so, if what is seen stays so -/
theorem new_of_vis {ρ2 : En} {σ2 : L2.St} {H2 : Hp} (h : Ex (visB F ρ σ H) (visB F ρ2 σ2 H2)) : Ex (newB F ρ σ H) (newB F ρ2 σ2 H2) := fun a o e => by
  have q := h a o (new_vis a o e)
  cases h0 : F.H0 a with
  | some x =>
    rw [newB_old h0] at e
    cases e
  | none =>
    by_cases ha : Hid F ρ2 σ2 a
    · rw [visB_hid ha] at q
      cases q
    · rw [visB_new ha h0] at q
      rw [newB_new ha h0]
      exact q
theorem hp_of_vis {ρ2 : En} {σ2 : L2.St} {H2 : Hp} (h : Ex (visB F ρ σ H) (visB F ρ2 σ2 H2)) {f : Bool} : Ex (hpB F ρ σ H f) (hpB F ρ2 σ2 H2 f) := by
  cases f with
  | true => exact new_of_vis h
  | false => exact h
theorem owned_set {i : Nat} {x : SV} {o : Option V} {a : Addr} (h : Owned (ρ.set i x) (σ.set i o) a) (hl : i < ρ.length) (hl2 : i < σ.length) : Owned ρ σ a ∨ ∃ d f, x = .ow d f ∧ o = some (.ref a) := by
  obtain ⟨j, d, f, h1, h2⟩ := h
  by_cases hj : i = j
  · subst hj
    rw [List.getElem?_set_self hl] at h1
    rw [List.getElem?_set_self hl2] at h2
    exact .inr ⟨d, f, Option.some.inj h1, Option.some.inj h2⟩
  · rw [List.getElem?_set_ne hj] at h1 h2
    exact .inl ⟨j, d, f, h1, h2⟩
/-- the slot i gets a shared value, or none -/
theorem fm_set (Rf : Fm K T F ρ σ H) {i : Nat} (hi : i < ρ.length) {x : SV} {o : Option V} (hx : ∀ d f, x ≠ .ow d f)
    (hs : SlOk K T F (ρ.set i x) (σ.set i o) H (some o) x) : Fm K T F (ρ.set i x) (σ.set i o) H ∧ Ex (visB F ρ σ H) (visB F (ρ.set i x) (σ.set i o) H) := by
  have hi2 : i < σ.length := by rw [← Rf.len]; exact hi
  have hh : ∀ a, Hid F (ρ.set i x) (σ.set i o) a → Hid F ρ σ a := fun a h => h.elim (fun h => (owned_set h hi hi2).elim .inl fun ⟨d, f, h1, _⟩ => absurd h1 (hx d f)) .inr
  refine ⟨⟨Rf.ex, Rf.sub, by simp [Rf.len], fun j y hj => ?_, fun j k p d d' f f' h1 h2 h3 h4 => ?_, Rf.hid⟩, vis_sub rfl rfl hh⟩
  · by_cases e : i = j
    · subst e
      rw [List.getElem?_set_self hi] at hj
      cases hj
      rw [List.getElem?_set_self hi2]
      exact hs
    · rw [List.getElem?_set_ne e] at hj
      rw [List.getElem?_set_ne e]
      have q := Rf.sl j y hj
      cases y with
      | un => exact True.intro
      | ex _ _ => exact ⟨q.1, q.2.1, q.2.2.mono (vis_sub rfl rfl hh) (Ex.refl _)⟩
      | sh d f =>
        obtain ⟨v, q1, q2⟩ := q
        exact ⟨v, q1, q2.mono (hp_sub rfl rfl hh)⟩
      | ow d f =>
        obtain ⟨p, q1, q2, q3, q4, q5⟩ := q
        exact ⟨p, q1, q2, q3.mono (Ex.refl _) (hp_sub rfl rfl hh), q4, q5⟩
  · have nj : i ≠ j := fun e => by
      subst e
      rw [List.getElem?_set_self hi] at h1
      exact hx _ _ (Option.some.inj h1)
    have nk : i ≠ k := fun e => by
      subst e
      rw [List.getElem?_set_self hi] at h2
      exact hx _ _ (Option.some.inj h2)
    rw [List.getElem?_set_ne nj] at h1 h3
    rw [List.getElem?_set_ne nk] at h2 h4
    exact Rf.dis j k p d d' f f' h1 h2 h3 h4
theorem fm_set_sh (Rf : Fm K T F ρ σ H) {i : Nat} (hi : i < ρ.length) {v : V} {d : D} {f : Bool} (h : Rep K T (hpB F ρ σ H f) v d) :
    Fm K T F (ρ.set i (.sh d f)) (σ.set i (some v)) H ∧ Ex (visB F ρ σ H) (visB F (ρ.set i (.sh d f)) (σ.set i (some v)) H) := by
  have hi2 : i < σ.length := by rw [← Rf.len]; exact hi
  have hh : ∀ a, Hid F (ρ.set i (.sh d f)) (σ.set i (some v)) a → Hid F ρ σ a := fun a h => h.elim (fun h => (owned_set h hi hi2).elim .inl fun ⟨d, f, h1, _⟩ => nomatch h1) .inr
  exact fm_set Rf hi (fun _ _ h => nomatch h) ⟨v, rfl, h.mono (hp_sub rfl rfl hh)⟩
/-- the slot i gets a new object, its owner -/
theorem fm_set_ow (Rf : Fm K T F ρ σ H) (e : Ex H H1) {i : Nat} (hi : i < ρ.length) {v : V} {d : D} {f : Bool} (hob : isObj d = false) (h : RepV K T F ρ σ v ⟨d, .nw, f⟩ H H1) :
    Fm K T F (ρ.set i (.ow d f)) (σ.set i (some v)) H1 ∧ Ex (visB F ρ σ H) (visB F (ρ.set i (.ow d f)) (σ.set i (some v)) H1) := by
  obtain ⟨p, rfl, hp, h0, nh, od, hr⟩ := h
  have hi2 : i < σ.length := by rw [← Rf.len]; exact hi
  have hh : ∀ a, Hid F (ρ.set i (.ow d f)) (σ.set i (some (.ref p))) a → Hid (F.hide p) ρ σ a := fun a h => by
    rcases h with h | h
    · rcases owned_set h hi hi2 with h | ⟨d', f', _, h2⟩
      · exact .inl h
      · cases h2
        exact .inr (List.mem_cons_self ..)
    · exact .inr (List.mem_cons_of_mem _ h)
  have up : ∀ {f : Bool}, Ex (hpB F ρ σ H f) (hpB F (ρ.set i (.ow d f)) (σ.set i (some (.ref p))) H1 f) := fun {f} => by
    refine (hp_born Rf hp e).trans (hp_sub (F := F.hide p) (F' := F) rfl rfl fun a h => ?_)
    rcases h with h | h
    · rcases owned_set h hi hi2 with h | ⟨d', f', _, h2⟩
      · exact .inl h
      · cases h2
        exact .inr (List.mem_cons_self ..)
    · exact .inr (List.mem_cons_of_mem _ h)
  have up2 : ∀ {g : Bool}, Ex (hpB F ρ σ H g) (hpB F (ρ.set i (.ow d f)) (σ.set i (some (.ref p))) H1 g) := fun {g} => (hp_born Rf hp e).trans (hp_sub (F := F.hide p) (F' := F) rfl rfl hh)
  have Rf1 := Rf.mono e
  refine ⟨⟨Rf1.ex, Rf.sub, by simp [Rf.len], fun j y hj => ?_, fun j k q d1 d2 f1 f2 h1 h2 h3 h4 => ?_, Rf1.hid⟩, up2 (g := false)⟩
  · by_cases ej : i = j
    · subst ej
      rw [List.getElem?_set_self hi] at hj
      cases hj
      rw [List.getElem?_set_self hi2]
      exact ⟨p, rfl, h0, hr.mono (Ex.refl _) (hp_sub (F := F.hide p) (F' := F) rfl rfl hh), fun z => nh (.inr z), od, fun z => by rw [hob] at z; cases z⟩
    · rw [List.getElem?_set_ne ej] at hj
      rw [List.getElem?_set_ne ej]
      have q := Rf.sl j y hj
      cases y with
      | un => exact True.intro
      | ex _ _ => exact ⟨q.1, q.2.1, q.2.2.mono (up2 (g := false)) e⟩
      | sh d' f' =>
        obtain ⟨w, q1, q2⟩ := q
        exact ⟨w, q1, q2.mono up2⟩
      | ow d' f' =>
        obtain ⟨p', q1, q2, q3, q4, q5⟩ := q
        exact ⟨p', q1, q2, q3.mono e up2, q4, q5⟩
  · have own : ∀ {j : Nat} {d' : D} {f' : Bool}, ρ[j]? = some (.ow d' f') → σ[j]? = some (some (.ref p)) → False := fun a b => (nh (.inl ⟨_, _, _, a, b⟩))
    by_cases e1 : i = j
    · by_cases e2 : i = k
      · exact e1.symm.trans e2
      · exfalso
        subst e1
        rw [List.getElem?_set_self hi2] at h3
        have h3' := Option.some.inj h3
        cases h3'
        rw [List.getElem?_set_ne e2] at h2 h4
        exact own h2 h4
    · rw [List.getElem?_set_ne e1] at h1 h3
      by_cases e2 : i = k
      · exfalso
        subst e2
        rw [List.getElem?_set_self hi2] at h4
        have h4' := Option.some.inj h4
        cases h4'
        exact own h1 h3
      · rw [List.getElem?_set_ne e2] at h2 h4
        exact Rf.dis j k q d1 d2 f1 f2 h1 h2 h3 h4
/-- the object of the slot i is written -/
theorem fm_put (Rf : Fm K T F ρ σ H) {i : Nat} {p : Addr} {d d' : D} {f f' : Bool} {o : HO} (h1 : ρ[i]? = some (.ow d f)) (h2 : σ[i]? = some (some (.ref p))) (od : ownb d' = true) (ob : isObj d' = true → isObj d = true)
    (hr : ∀ G, Ex (hpB F ρ σ H f') G → ShRep K T (upd H p o) G (.ref p) d') :
    Fm K T F (ρ.set i (.ow d' f')) σ (upd H p o) ∧ Ex (visB F ρ σ H) (visB F (ρ.set i (.ow d' f')) σ (upd H p o)) := by
  obtain ⟨hi, _⟩ := List.getElem?_eq_some_iff.mp h1
  obtain ⟨p', q1, q2, q3, q4, q5, q6⟩ := Rf.sl i _ h1
  rw [h2] at q1
  cases q1
  have hid : Hid F ρ σ p := .inl ⟨i, d, f, h1, h2⟩
  have hh : ∀ a, Hid F (ρ.set i (.ow d' f')) σ a → Hid F ρ σ a := fun a h => by
    rcases h with ⟨j, e, g, h3, h4⟩ | h
    · by_cases ej : i = j
      · subst ej
        rw [h2] at h4
        cases h4
        exact hid
      · rw [List.getElem?_set_ne ej] at h3
        exact .inl ⟨j, e, g, h3, h4⟩
    · exact .inr h
  have up : ∀ {g : Bool}, Ex (hpB F ρ σ H g) (hpB F (ρ.set i (.ow d' f')) σ (upd H p o) g) := fun {g} => (hp_upd hid).trans (hp_sub rfl rfl hh)
  refine ⟨⟨fun a u e => ?_, Rf.sub, by simp [Rf.len], fun j y hj => ?_, fun j k q d1 d2 f1 f2 g1 g2 g3 g4 => ?_, fun a ha => ⟨(Rf.hid a ha).1, ?_⟩⟩, up (g := false)⟩
  · rw [upd_ne (ne_of_none e q2)]
    exact Rf.ex _ _ e
  · by_cases ej : i = j
    · subst ej
      rw [List.getElem?_set_self hi] at hj
      cases hj
      exact ⟨p, h2, q2, hr _ up, q4, od, fun z => q6 (ob z)⟩
    · rw [List.getElem?_set_ne ej] at hj
      have q := Rf.sl j y hj
      cases y with
      | un => exact True.intro
      | ex c l =>
        refine ⟨q.1, q.2.1, ?_⟩
        rcases q.2.2 with z | ⟨dx, vs, z0, z1, z2, z3, z4⟩
        · exact .inl z
        · have ne : dx ≠ p := fun z => by
            subst z
            cases d with
            | lst ds => obtain ⟨_, ws, y, y1, _⟩ := q3; cases y; rw [z2] at y1; cases y1
            | dct ds => obtain ⟨_, ws, y, y1, _⟩ := q3; cases y; rw [z2] at y1; cases y1
            | obj c ds => obtain ⟨_, dy, ws, y, y1, _⟩ := q3; cases y; rw [z2] at y1; cases y1
            | non => cases q5
            | bl _ => cases q5
            | int _ => cases q5
            | str _ => cases q5
            | lsk _ => cases q5
            | tup _ => cases q5
          exact .inr ⟨dx, vs, z0, z1, by rw [upd_ne ne]; exact z2, z3.mono (up (g := false)), z4⟩
      | sh d' f' =>
        obtain ⟨w, q1, q2⟩ := q
        exact ⟨w, q1, q2.mono up⟩
      | ow e g =>
        obtain ⟨p', r1, r2, r3, r4, r5, r6⟩ := q
        have ne : p' ≠ p := fun z => ej (by
          subst z
          exact Rf.dis i j p' d e f g h1 hj h2 r1)
        refine ⟨p', r1, r2, ?_, r4, r5, r6⟩
        cases e with
        | lst ds => obtain ⟨_, vs, z, z1, z2⟩ := r3; cases z; exact ⟨_, vs, rfl, by rw [upd_ne ne]; exact z1, z2.mono up⟩
        | dct ds => obtain ⟨_, vs, z, z1, z2⟩ := r3; cases z; exact ⟨_, vs, rfl, by rw [upd_ne ne]; exact z1, z2.mono up⟩
        | obj c ds => obtain ⟨_, dx, vs, z, z1, z2, z3⟩ := r3; cases z; exact ⟨_, dx, vs, rfl, by rw [upd_ne ne]; exact z1, z2.mono up, z3⟩
        | _ => cases r5
  · have own : ∀ {j : Nat} {d' : D} {f' : Bool} {x : SV}, (ρ.set i x)[j]? = some (.ow d' f') → ∃ d'' f'', ρ[j]? = some (.ow d'' f'') := fun {j _ _ _} a => by
      by_cases e : i = j
      · subst e
        exact ⟨_, _, h1⟩
      · rw [List.getElem?_set_ne e] at a
        exact ⟨_, _, a⟩
    obtain ⟨_, _, g1'⟩ := own g1
    obtain ⟨_, _, g2'⟩ := own g2
    exact Rf.dis j k q _ _ _ _ g1' g2' g3 g4
  · obtain ⟨u, hu⟩ := (Rf.hid a ha).2
    have ne : a ≠ p := fun z => q4 (z ▸ ha)
    exact ⟨u, by rw [upd_ne ne]; exact hu⟩
end

/-! ### what a statement's evaluator promises -/
inductive Out where
  | next (ρ : En)
  | ret (a : Vl)
  | brk (ρ : En)
  | cont (ρ : En)
  | exc (ρ : En) (c : Nat) (l : List D)
  | bad
/-- at a def's end nothing is hidden -/
def visU (F : Fp) (H : Hp) : Hp := fun a => match F.H0 a with
  | none => H a
  | some _ => F.V0 a
def newU (F : Fp) (H : Hp) : Hp := fun a => match F.H0 a with
  | none => H a
  | some _ => none
def hpU (F : Fp) (H : Hp) (f : Bool) : Hp := if f then newU F H else visU F H
theorem vis_U {F : Fp} {ρ : En} {σ : L2.St} {H : Hp} : Ex (visB F ρ σ H) (visU F H) := fun a o e => by
  by_cases h : Hid F ρ σ a
  · rw [visB_hid h] at e
    cases e
  · cases q : F.H0 a with
    | none =>
      rw [visB_new h q] at e
      unfold visU
      rw [q]
      exact e
    | some x =>
      rw [visB_old h q] at e
      unfold visU
      rw [q]
      exact e
theorem new_U {F : Fp} {ρ : En} {σ : L2.St} {H : Hp} : Ex (newB F ρ σ H) (newU F H) := fun a o e => by
  by_cases h : Hid F ρ σ a
  · rw [newB_hid h] at e
    cases e
  · cases q : F.H0 a with
    | none =>
      rw [newB_new h q] at e
      unfold newU
      rw [q]
      exact e
    | some x =>
      rw [newB_old q] at e
      cases e
theorem hp_U {F : Fp} {ρ : En} {σ : L2.St} {H : Hp} {f : Bool} : Ex (hpB F ρ σ H f) (hpU F H f) := by
  cases f with
  | true => exact new_U
  | false => exact vis_U
theorem ret_rep {K : PySem.W.Frag} {T : Tb} {F : Fp} {ρ : En} {σ : L2.St} {Hs H : Hp} {v : V} {a : Vl} (h : RepV K T F ρ σ v a Hs H) : Rep K T (hpU F H a.f) v a.d := by
  have key : ∀ {p : Addr} {d : D} {f : Bool}, F.H0 p = none → ownb d = true → ShRep K T H (hpB F ρ σ H f) (.ref p) d → Rep K T (hpU F H f) (.ref p) d := fun {p d f} h0 od hr => by
    refine ShRep.rep od (hr.mono (Ex.refl _) hp_U) fun o ho => ?_
    cases f with
    | true => show newU F H p = some o; unfold newU; rw [h0]; exact ho
    | false => show visU F H p = some o; unfold visU; rw [h0]; exact ho
  obtain ⟨d, m, f⟩ := a
  cases m with
  | bo =>
    obtain ⟨p, rfl, h0, od, hr⟩ := h
    exact key h0 od hr
  | pl => exact Rep.mono hp_U (show Rep K T (hpB F ρ σ H f) v d from h)
  | nw =>
    obtain ⟨p, rfl, _, h0, _, od, hr⟩ := h
    exact key h0 od (hr.mono (Ex.refl _) hp_hide)
def PO (K : PySem.W.Frag) (T : Tb) (F : Fp) (W : WX) (G : Hp) (o : Out) (E : Ends) : Prop := match o with
  | .next ρ => ∀ σ H, Fm K T F ρ σ H → Ex G (visB F ρ σ H) → E.nx σ H
  | .brk ρ => ∀ σ H, Fm K T F ρ σ H → Ex G (visB F ρ σ H) → E.bk σ H
  | .cont ρ => ∀ σ H, Fm K T F ρ σ H → Ex G (visB F ρ σ H) → E.ct σ H
  | .ret a => ∀ v H, Ex F.H0 H → Rep K T (hpU F H a.f) v a.d → E.rt v H
  | .exc ρ c l => ∀ dd σ H, Fm K T F ρ σ H → Ex G (visB F ρ σ H) → ExF K T (visB F ρ σ H) H dd c l → W (.ref (T.ca c)) dd σ H
  | .bad => False
structure QS (X : Cx) (T : Tb) (W : WX) (st : Stmt) (g : En → Out) : Prop where
  ex : ∃ t : TS, PS X st t ∧ ∀ F ρ σ H, Fm X.K T F ρ σ H → ∀ E : Ends, PO X.K T F W (visB F ρ σ H) (g ρ) E → t E σ H
structure QSs (X : Cx) (T : Tb) (W : WX) (st : List Stmt) (g : En → Out) : Prop where
  ex : ∃ t : TS, PSs X st t ∧ ∀ F ρ σ H, Fm X.K T F ρ σ H → ∀ E : Ends, PO X.K T F W (visB F ρ σ H) (g ρ) E → t E σ H
theorem PO.pre {K : PySem.W.Frag} {T : Tb} {F : Fp} {W : WX} {G G' : Hp} {o : Out} {E : Ends} (e : Ex G G') (h : PO K T F W G o E) : PO K T F W G' o E := by
  cases o with
  | next ρ => exact fun σ H R q => h σ H R (e.trans q)
  | brk ρ => exact fun σ H R q => h σ H R (e.trans q)
  | cont ρ => exact fun σ H R q => h σ H R (e.trans q)
  | ret a => exact h
  | exc ρ c l => exact fun dd σ H R q => h dd σ H R (e.trans q)
  | bad => exact h
def Out.then (o : Out) (g : En → Out) : Out := match o with
  | .next ρ => g ρ
  | o => o
def sSeq (g1 g2 : En → Out) : En → Out := fun ρ => (g1 ρ).then g2
def sNext : En → Out := fun ρ => .next ρ
/-- from an expression to a statement -/
def R.toOut {α : Type} (r : R α) (ρ : En) (k : α → Out) : Out := match r with
  | .ok a => k a
  | .exc c l => .exc ρ c l
  | .bad => .bad
section
variable {X : Cx} {T : Tb} {W : WX} {st : Stmt} {rest : List Stmt} {g g1 g2 : En → Out} {e : Expr} {f : En → R Vl} {pos : Pos}
theorem qss_nil : QSs X T W [] sNext := ⟨⟨_, pss_nil, fun F ρ σ H Rf E h => h σ H Rf (Ex.refl _)⟩⟩
theorem qss_one (h : QS X T W st g) : QSs X T W [st] g := by
  obtain ⟨t, pt, ht⟩ := h.ex
  exact ⟨⟨t, pss_one pt, ht⟩⟩
theorem qss_cons (h1 : QS X T W st g1) (h2 : QSs X T W rest g2) : QSs X T W (st :: rest) (sSeq g1 g2) := by
  obtain ⟨t, pt, ht⟩ := h1.ex
  obtain ⟨u, pu, hu⟩ := h2.ex
  refine ⟨⟨_, pss_cons pt pu, fun F ρ σ H Rf E h => ?_⟩⟩
  refine ht F ρ σ H Rf _ ?_
  unfold sSeq at h
  cases ho : g1 ρ with
  | next ρ1 =>
    rw [ho] at h
    exact fun σ1 H1 R1 q => hu F ρ1 σ1 H1 R1 E (PO.pre q h)
  | ret a => rw [ho] at h; exact h
  | brk ρ1 => rw [ho] at h; exact h
  | cont ρ1 => rw [ho] at h; exact h
  | exc ρ1 c l => rw [ho] at h; exact h
  | bad => rw [ho] at h; exact h.elim
/-- from a value on -/
theorem Pst.out {F : Fp} {ρ : En} {σ : L2.St} {H : Hp} {α β : Type} {rel : β → α → Hp → Hp → Prop} {r : R α} {k : α → Out} {E : Ends} {Q : β → Hp → Prop} (Rf : Fm X.K T F ρ σ H) (h : PO X.K T F W (visB F ρ σ H) (r.toOut ρ k) E)
    (hk : ∀ a v H1, r = .ok a → Ex H H1 → rel v a H H1 → PO X.K T F W (visB F ρ σ H) (k a) E → Q v H1) : Pst ⟨X.K, T, F, ρ, σ, W⟩ rel r H Q := by
  cases r with
  | ok a => exact fun v H1 e q => hk a v H1 rfl e q h
  | exc c l => exact fun dd H1 e q => h dd σ H1 (Rf.mono e) (vis_mono e) q
  | bad => exact h.elim
def nb? (a : Vl) : Bool := match a.m with
  | .bo => false
  | _ => true
theorem nb_of {a : Vl} (h : nb? a = true) : a.m ≠ .bo := fun z => by
  unfold nb? at h
  rw [z] at h
  cases h
def isNw (a : Vl) : Bool := match a.m with
  | .nw => true
  | _ => false
theorem nw_of {a : Vl} (h : isNw a = true) : a = ⟨a.d, .nw, a.f⟩ := by
  obtain ⟨d, m, f⟩ := a
  cases m with
  | nw => rfl
  | _ => cases h
/-- name = e, the value shared -/
def sAsg (i : Nat) (f : En → R Vl) : En → Out := fun ρ => (f ρ).toOut ρ fun a => if nb? a = true ∧ i < ρ.length then .next (ρ.set i (.sh a.d (a.f || scalar a.d))) else .bad
/-- name = e, the name the owner -/
def sOwn (i : Nat) (f : En → R Vl) : En → Out := fun ρ => (f ρ).toOut ρ fun a => if isNw a = true ∧ isObj a.d = false ∧ i < ρ.length then .next (ρ.set i (.ow a.d a.f)) else .bad
theorem asg_te {te : TE} {i : Nat} (hf : ∀ F ρ σ H, Fm X.K T F ρ σ H → ∀ Q, Pst ⟨X.K, T, F, ρ, σ, W⟩ (relE ⟨X.K, T, F, ρ, σ, W⟩) (f ρ) H Q → te σ H Q) :
    ∀ F ρ σ H, Fm X.K T F ρ σ H → ∀ E : Ends, PO X.K T F W (visB F ρ σ H) (sAsg i f ρ) E → tAsg te (gName i) E σ H := fun F ρ σ H Rf E h => by
  refine hf F ρ σ H Rf _ (Pst.out Rf h fun a v H1 _ e1 q1 h1 => ?_)
  have hc : nb? a = true ∧ i < ρ.length := Decidable.byContradiction fun z => by rw [if_neg z] at h1; exact h1
  rw [if_pos hc] at h1
  have r := fm_set_sh (f := a.f || scalar a.d) (Rf.mono e1) hc.2 (repV_pl (Hs := H) (q1.pl (nb_of hc.1)))
  exact h1 _ H1 r.1 ((vis_mono e1).trans r.2)
theorem own_te {te : TE} {i : Nat} (hf : ∀ F ρ σ H, Fm X.K T F ρ σ H → ∀ Q, Pst ⟨X.K, T, F, ρ, σ, W⟩ (relE ⟨X.K, T, F, ρ, σ, W⟩) (f ρ) H Q → te σ H Q) :
    ∀ F ρ σ H, Fm X.K T F ρ σ H → ∀ E : Ends, PO X.K T F W (visB F ρ σ H) (sOwn i f ρ) E → tAsg te (gName i) E σ H := fun F ρ σ H Rf E h => by
  refine hf F ρ σ H Rf _ (Pst.out Rf h fun a v H1 _ e1 q1 h1 => ?_)
  have hc : isNw a = true ∧ isObj a.d = false ∧ i < ρ.length := Decidable.byContradiction fun z => by rw [if_neg z] at h1; exact h1
  rw [if_pos hc] at h1
  have q1 : RepV X.K T F ρ σ v a H H1 := q1
  rw [nw_of hc.1] at q1
  have r := fm_set_ow Rf e1 hc.2.2 hc.2.1 q1
  exact h1 _ H1 r.1 r.2
theorem s_asg (i : Nat) {x : Str} {pos' : Pos} (hN : X.N.Nodup) (hi : X.N[i]? = some x) (hx : Loc X.env.scope x) (he : QE X T W e f) (hs : swapsWith e (some (.Name x pos')) pos.line X.env = pure false := by rfl)
    (hf : X.fn x = true ∨ X.env.scope.names.lookup x = some .local := by first | exact .inl rfl | exact .inr rfl | assumption) : QS X T W (.Assign [.Name x pos'] e pos) (sAsg i f) := by
  obtain ⟨te, pe, hf'⟩ := he.ex
  exact ⟨⟨_, ps_set hN hi hx pe hs hf, asg_te hf'⟩⟩
theorem s_own (i : Nat) {x : Str} {pos' : Pos} (hN : X.N.Nodup) (hi : X.N[i]? = some x) (hx : Loc X.env.scope x) (he : QE X T W e f) (hs : swapsWith e (some (.Name x pos')) pos.line X.env = pure false := by rfl)
    (hf : X.fn x = true ∨ X.env.scope.names.lookup x = some .local := by first | exact .inl rfl | exact .inr rfl | assumption) : QS X T W (.Assign [.Name x pos'] e pos) (sOwn i f) := by
  obtain ⟨te, pe, hf'⟩ := he.ex
  exact ⟨⟨_, ps_set hN hi hx pe hs hf, own_te hf'⟩⟩
/-- an owned slot is shared from here on: no statement of Python -/
def sFz (i : Nat) (g : En → Out) : En → Out := fun ρ => match ρ[i]? with
  | some (.ow d f) => g (ρ.set i (.sh d f))
  | _ => .bad
theorem fm_fz {K : PySem.W.Frag} {F : Fp} {ρ : En} {σ : L2.St} {H : Hp} (Rf : Fm K T F ρ σ H) {i : Nat} {d : D} {f : Bool} (h : ρ[i]? = some (.ow d f)) : Fm K T F (ρ.set i (.sh d f)) σ H ∧ Ex (visB F ρ σ H) (visB F (ρ.set i (.sh d f)) σ H) := by
  obtain ⟨hi, _⟩ := List.getElem?_eq_some_iff.mp h
  obtain ⟨p, q1, q2, q3, q4, q5, q6⟩ := Rf.sl i _ h
  have e : σ = σ.set i (some (.ref p)) := by
    refine List.ext_getElem? fun j => ?_
    by_cases ej : i = j
    · subst ej
      rw [List.getElem?_set_self (by rw [← Rf.len]; exact hi)]
      exact q1
    · rw [List.getElem?_set_ne ej]
  have hi2 : i < σ.length := by rw [← Rf.len]; exact hi
  have hh : ∀ a, Hid F (ρ.set i (.sh d f)) σ a → Hid F ρ σ a := fun a h => by
    rcases h with ⟨j, e, g, h3, h4⟩ | h
    · by_cases ej : i = j
      · subst ej
        rw [List.getElem?_set_self hi] at h3
        cases h3
      · rw [List.getElem?_set_ne ej] at h3
        exact .inl ⟨j, e, g, h3, h4⟩
    · exact .inr h
  have np : ¬ Hid F (ρ.set i (.sh d f)) σ p := fun h => by
    rcases h with ⟨j, e, g, h3, h4⟩ | h
    · by_cases ej : i = j
      · subst ej
        rw [List.getElem?_set_self hi] at h3
        cases h3
      · rw [List.getElem?_set_ne ej] at h3
        exact ej (Rf.dis i j p _ _ _ _ (by assumption) h3 q1 h4)
    · exact q4 h
  have hr : Rep K T (hpB F (ρ.set i (.sh d f)) σ H f) (.ref p) d := ShRep.rep q5 (q3.mono (Ex.refl _) (hp_sub rfl rfl hh)) fun o ho => by
    cases f with
    | true => exact (newB_new np q2).trans ho
    | false => exact (visB_new np q2).trans ho
  have r := fm_set (x := .sh d f) (o := some (.ref p)) Rf hi (fun _ _ h => nomatch h) (by rw [← e]; exact ⟨.ref p, rfl, hr⟩)
  rw [← e] at r
  exact r
theorem s_fz (i : Nat) (h : QS X T W st g) : QS X T W st (sFz i g) := by
  obtain ⟨t, pt, ht⟩ := h.ex
  refine ⟨⟨t, pt, fun F ρ σ H Rf E hp => ?_⟩⟩
  unfold sFz at hp
  split at hp
  · rename_i d f hi
    have r := fm_fz Rf hi
    exact ht F _ σ H r.1 E (PO.pre r.2 hp)
  · exact hp.elim
theorem ss_fz (i : Nat) (h : QSs X T W rest g) : QSs X T W rest (sFz i g) := by
  obtain ⟨t, pt, ht⟩ := h.ex
  refine ⟨⟨t, pt, fun F ρ σ H Rf E hp => ?_⟩⟩
  unfold sFz at hp
  split at hp
  · rename_i d f hi
    have r := fm_fz Rf hi
    exact ht F _ σ H r.1 E (PO.pre r.2 hp)
  · exact hp.elim
/-- return, pass, break, continue, an expression for its own sake, if -/
def sRet (f : En → R Vl) : En → Out := fun ρ => (f ρ).toOut ρ fun a => .ret a
theorem s_ret (he : QE X T W e f) : QS X T W (.Return (some e) pos) (sRet f) := by
  obtain ⟨te, pe, hf⟩ := he.ex
  refine ⟨⟨_, ps_ret pe, fun F ρ σ H Rf E h => ?_⟩⟩
  exact hf F ρ σ H Rf _ (Pst.out Rf h fun a v H1 _ e1 q1 h1 => h1 v H1 (Rf.mono e1).ex (ret_rep q1))
def sRetN : En → Out := fun _ => .ret ⟨.non, .pl, true⟩
theorem s_retN : QS X T W (.Return none pos) sRetN := ⟨⟨_, ps_retN, fun F ρ σ H Rf E h => h _ H Rf.ex Rep.non⟩⟩
theorem s_pass : QS X T W (.Pass pos) sNext := ⟨⟨_, ps_pass, fun F ρ σ H Rf E h => h σ H Rf (Ex.refl _)⟩⟩
def sBrk : En → Out := fun ρ => .brk ρ
def sCont : En → Out := fun ρ => .cont ρ
theorem s_brk : QS X T W (.Break pos) sBrk := ⟨⟨_, ps_break, fun F ρ σ H Rf E h => h σ H Rf (Ex.refl _)⟩⟩
theorem s_cont : QS X T W (.Continue pos) sCont := ⟨⟨_, ps_continue, fun F ρ σ H Rf E h => h σ H Rf (Ex.refl _)⟩⟩
def sDrop (f : En → R Vl) : En → Out := fun ρ => (f ρ).toOut ρ fun _ => .next ρ
theorem s_drop (he : QE X T W e f) (hs : swapsWith e none pos.line X.env = pure false := by rfl) : QS X T W (.Expr e pos) (sDrop f) := by
  obtain ⟨te, pe, hf⟩ := he.ex
  refine ⟨⟨_, ps_expr pe hs, fun F ρ σ H Rf E h => ?_⟩⟩
  exact hf F ρ σ H Rf _ (Pst.out Rf h fun a v H1 _ e1 q1 h1 => h1 σ H1 (Rf.mono e1) (vis_mono e1))
def sIf (c : En → R Bool) (g1 g2 : En → Out) : En → Out := fun ρ => (c ρ).toOut ρ fun b => if b then g1 ρ else g2 ρ
theorem s_if {c : Expr} {a b : List Stmt} {h : En → R Bool} (hc : QT X T W c h) (ha : QSs X T W a g1) (hb : QSs X T W b g2) : QS X T W (.If c a b pos) (sIf h g1 g2) := by
  obtain ⟨tc, pc, hc⟩ := hc.ex
  obtain ⟨ta, pa, ha⟩ := ha.ex
  obtain ⟨tb, pb, hb⟩ := hb.ex
  refine ⟨⟨_, ps_if pc pa pb, fun F ρ σ H Rf E hp => ?_⟩⟩
  refine hc F ρ σ H Rf _ (Pst.out Rf hp fun k b H1 _ e1 q1 h1 => ?_)
  rw [q1]
  cases k with
  | true => exact ha F ρ σ H1 (Rf.mono e1) E (PO.pre (vis_mono e1) h1)
  | false => exact hb F ρ σ H1 (Rf.mono e1) E (PO.pre (vis_mono e1) h1)
end
end Ev
set_option maxHeartbeats 1000000
/-! Ev6: targets, what is walked, for, while, comprehensions. -/
namespace Ev
open PySem L2

/-! ### targets -/
def hName (i : Nat) (d : D) (f : Bool) (ρ : En) : Option En := if i < ρ.length then some (ρ.set i (.sh d (f || scalar d))) else none
def hNames : List Nat → List D → Bool → En → Option En
  | [], [], _, ρ => some ρ
  | i :: is, d :: ds, f, ρ => (hName i d f ρ).bind fun ρ' => hNames is ds f ρ'
  | _, _, _, _ => none
def hTup (is : List Nat) (d : D) (f : Bool) (ρ : En) : Option En := match d with
  | .tup ds => hNames is ds f ρ
  | _ => none
/-- behind a target: the frame, the places that changed -/
def TgPost (K : PySem.W.Frag) (T : Tb) (F : Fp) (is : List Nat) (ρ : En) (σ : L2.St) (H : Hp) (ρ' : En) (Q : L2.St → Hp → Prop) : Prop :=
  ∀ σ', Fm K T F ρ' σ' H → Ex (visB F ρ σ H) (visB F ρ' σ' H) → σ'.length = σ.length → ρ'.length = ρ.length → (∀ j : Nat, j ∉ is → σ'[j]? = σ[j]? ∧ ρ'[j]? = ρ[j]?) → Q σ' H
structure QG (X : Cx) (T : Tb) (tg : Expr) (is : List Nat) (h : D → Bool → En → Option En) : Prop where
  ex : ∃ g : TG, PG X tg g ∧ ∀ F ρ σ H, Fm X.K T F ρ σ H → ∀ v d f, Rep X.K T (hpB F ρ σ H f) v d → ∀ ρ', h d f ρ = some ρ' → ∀ Q, TgPost X.K T F is ρ σ H ρ' Q → g v σ H Q
structure QGs (X : Cx) (T : Tb) (ts : List Expr) (is : List Nat) : Prop where
  ex : ∃ g : TGs, PGs X ts g ∧ ∀ F ρ σ H, Fm X.K T F ρ σ H → ∀ vs ds f, Reps X.K T (hpB F ρ σ H f) vs ds → ∀ ρ', hNames is ds f ρ = some ρ' → ∀ Q, TgPost X.K T F is ρ σ H ρ' Q → g vs σ H Q
section
variable {X : Cx} {T : Tb} {pos : Pos}
theorem g_name (i : Nat) {x : Str} (hN : X.N.Nodup) (hi : X.N[i]? = some x) (hx : Loc X.env.scope x) (hf : X.fn x = true ∨ X.env.scope.names.lookup x = some .local := by first | exact .inl rfl | exact .inr rfl | assumption) : QG X T (.Name x pos) [i] (hName i) := by
  refine ⟨⟨_, pg_name hN hi hx hf, fun F ρ σ H Rf v d f h ρ' e Q hq => ?_⟩⟩
  unfold hName at e
  split at e
  · rename_i hl
    cases e
    have r := fm_set_sh (f := f || scalar d) Rf hl (repV_pl (Hs := H) h)
    refine hq _ r.1 r.2 (by simp) (by simp) fun j hj => ?_
    have ne : i ≠ j := fun z => hj (by simp [z])
    exact ⟨List.getElem?_set_ne ne, List.getElem?_set_ne ne⟩
  · cases e
theorem gs_nil : QGs X T [] [] := by
  refine ⟨⟨_, pgs_nil, fun F ρ σ H Rf vs ds f h ρ' e Q hq => ?_⟩⟩
  cases ds with
  | nil =>
    unfold hNames at e
    cases e
    exact ⟨Reps.nil_iff h |>.mpr rfl, hq σ Rf (Ex.refl _) rfl rfl fun _ _ => ⟨rfl, rfl⟩⟩
  | cons d ds => unfold hNames at e; cases e
theorem gs_cons {e : Expr} {es : List Expr} {i : Nat} {is : List Nat} (h1 : QG X T e [i] (hName i)) (h2 : QGs X T es is) (hs : (assignEach (e :: es) X.env).map (·.2) = assign e X.env :: (assignEach es X.env).map (·.2) := by rfl) : QGs X T (e :: es) (i :: is) := by
  obtain ⟨g, pg, hg⟩ := h1.ex
  obtain ⟨gs, pgs, hgs⟩ := h2.ex
  refine ⟨⟨_, pgs_cons pg pgs hs, fun F ρ σ H Rf vs ds f h ρ' e Q hq => ?_⟩⟩
  cases h with
  | nil => unfold hNames at e; cases e
  | cons v d vs ds h r =>
    unfold hNames at e
    obtain ⟨ρ1, e1, e2⟩ := Option.bind_eq_some_iff.mp e
    refine ⟨v, vs, rfl, hg F ρ σ H Rf v d f h ρ1 e1 _ fun σ1 R1 x1 l1 l2 k1 => ?_⟩
    refine hgs F ρ1 σ1 H R1 vs ds f (r.mono (hp_of_vis x1)) ρ' e2 _ fun σ2 R2 x2 l3 l4 k2 => ?_
    refine hq σ2 R2 (x1.trans x2) (l3.trans l1) (l4.trans l2) fun j hj => ?_
    have hj1 : j ∉ [i] := fun z => hj (by simp at z; simp [z])
    have hj2 : j ∉ is := fun z => hj (List.mem_cons_of_mem _ z)
    exact ⟨(k2 j hj2).1.trans (k1 j hj1).1, (k2 j hj2).2.trans (k1 j hj1).2⟩
theorem g_tup {es : List Expr} {k : Nat} {is : List Nat} (hc : X.calm = true) (h : QGs X T es is) (hn : (assignEach es X.env).length = is.length := by rfl) (hst : (assignEach es X.env).findIdx? (·.1) = none := by rfl) : QG X T (.Tuple es k pos) is (hTup is) := by
  obtain ⟨gs, pgs, hgs⟩ := h.ex
  refine ⟨⟨_, pg_tup hc pgs hn hst, fun F ρ σ H Rf v d f h ρ' e Q hq => ?_⟩⟩
  unfold hTup at e
  split at e
  · rename_i ds
    cases h with
    | tup p vs _ h1 h2 =>
      refine ⟨p, vs, rfl, Rf.hH.sqT h1, ?_, hgs F ρ σ H Rf vs ds f h2 ρ' e Q hq⟩
      rw [h2.length]
      have key : ∀ (is : List Nat) (ds : List D) (ρ ρ' : En), hNames is ds f ρ = some ρ' → ds.length = is.length := fun is => by
        induction is with
        | nil =>
          intro ds ρ ρ' e
          cases ds with
          | nil => rfl
          | cons d ds => unfold hNames at e; cases e
        | cons i is ih =>
          intro ds ρ ρ' e
          cases ds with
          | nil => unfold hNames at e; cases e
          | cons d ds =>
            unfold hNames at e
            obtain ⟨ρ1, e1, e2⟩ := Option.bind_eq_some_iff.mp e
            rw [List.length_cons, List.length_cons, ih ds ρ1 ρ' e2]
      exact key is ds ρ ρ' e
  · cases e
/-- a, b = e -/
def sUnp (h : D → Bool → En → Option En) (f : En → R Vl) : En → Out := fun ρ => (f ρ).toOut ρ fun a => if nb? a = true then (match h a.d a.f ρ with
  | some ρ' => .next ρ'
  | none => .bad) else .bad
theorem s_unp {W : WX} {tg e : Expr} {is : List Nat} {h : D → Bool → En → Option En} {f : En → R Vl} (he : QE X T W e f) (hg : QG X T tg is h) (hs : swapsWithSole [tg] e pos.line X.env = pure false := by rfl) (hw : swappedStores [tg] e X.env = pure none := by rfl)
    (h1 : (assignEach [tg] X.env).map (·.2) = [assign tg X.env] := by rfl) : QS X T W (.Assign [tg] e pos) (sUnp h f) := by
  obtain ⟨te, pe, hf⟩ := he.ex
  obtain ⟨g, pg, hg⟩ := hg.ex
  refine ⟨⟨_, ps_asg pe pg hs hw h1, fun F ρ σ H Rf E hp => ?_⟩⟩
  refine hf F ρ σ H Rf _ (Pst.out Rf hp fun a v H1 _ e1 q1 h2 => ?_)
  split at h2
  · rename_i hb
    split at h2
    · rename_i ρ' e
      exact hg F ρ σ H1 (Rf.mono e1) v a.d a.f (q1.pl (nb_of hb)) ρ' e _ fun σ' R' x' _ _ _ => h2 σ' H1 R' ((vis_mono e1).trans x')
    · exact h2.elim
  · exact h2.elim
/-- name op= e, ints -/
def sAug (i : Nat) (g : Int → Int → Int) (f : En → R Vl) : En → Out := fun ρ => match ρ[i]? with
  | some (.sh (.int x) _) => (f ρ).toOut ρ fun a => match int? a with
    | some y => .next (ρ.set i (.sh (.int (g x y)) true))
    | none => .bad
  | _ => .bad
theorem s_aug {W : WX} (i : Nat) {x : Str} {e : Expr} {f : En → R Vl} {op : Operator} {g : Int → Int → Int} {pos' : Pos} (ho : PIp X op (ipI g)) (hN : X.N.Nodup) (hi : X.N[i]? = some x) (hx : Loc X.env.scope x) (he : QE X T W e f)
    (hf : X.fn x = true ∨ X.env.scope.names.lookup x = some .local := by first | exact .inl rfl | exact .inr rfl | assumption) : QS X T W (.AugAssign (.Name x pos') op e pos) (sAug i g f) := by
  obtain ⟨te, pe, hf'⟩ := he.ex
  refine ⟨⟨_, ps_aug hN hi hx pe ho hf, fun F ρ σ H Rf E hp => ?_⟩⟩
  unfold sAug at hp
  split at hp
  · rename_i x f hρ
    obtain ⟨v, hv, hr⟩ := Rf.sl i _ hρ
    obtain ⟨hl, _⟩ := List.getElem?_eq_some_iff.mp hρ
    cases hr
    refine ⟨_, hv, hf' F ρ σ H Rf _ (Pst.out Rf hp fun a w H1 _ e1 q1 h2 => ?_)⟩
    split at h2
    · rename_i y hy
      have r := fm_set_sh (f := true) (Rf.mono e1) hl (Rep.int (K := X.K) (T := T) (H := hpB F ρ σ H1 true) (g x y))
      exact ⟨x, y, rfl, int_of (Rf.mono e1) q1 (int?_eq hy), h2 _ H1 r.1 ((vis_mono e1).trans r.2)⟩
    · exact h2.elim
  · exact hp.elim
end

/-! ### what is walked -/
/-- the items, all new, held by a borrowed object -/
structure Itm where
  ds : List D
  f : Bool
  b : Bool
def ItOk (K : PySem.W.Frag) (T : Tb) (F : Fp) (ρ : En) (σ : L2.St) (J : It) (a : Itm) (H1 : Hp) : Prop :=
  ∀ F' ρ' σ' H2, Fm K T F' ρ' σ' H2 → (∀ b, Ex (hpB F ρ σ H1 b) (hpB F' ρ' σ' H2 b)) → (a.b = true → Ex H1 H2) → ∀ i : Nat,
    (∀ d, a.ds[i]? = some d → J.go i H2 ∧ ∀ x H', J.yld i H2 x H' → Ex H2 H' ∧ Rep K T (hpB F' ρ' σ' H' a.f) x d) ∧ (a.ds.length ≤ i → J.stop i H2)
structure QI (X : Cx) (T : Tb) (W : WX) (tg iter : Expr) (f : En → R Itm) : Prop where
  ex : ∃ w : TI, PI X tg iter w ∧ ∀ F ρ σ H, Fm X.K T F ρ σ H → ∀ Q, Pst ⟨X.K, T, F, ρ, σ, W⟩ (fun (J : It) (a : Itm) (_ H1 : Hp) => ItOk X.K T F ρ σ J a H1) (f ρ) H Q → w σ H Q
theorem stI {K : PySem.W.Frag} {T : Tb} {F : Fp} {ρ : En} {σ : L2.St} : StMono (fun (J : It) (a : Itm) (_ H1 : Hp) => ItOk K T F ρ σ J a H1) := fun _ _ _ _ _ _ h => h
section
variable {X : Cx} {T : Tb} {W : WX} {tg e a b : Expr} {f f1 f2 : En → R Vl} {pos p : Pos}
def isBo (a : Vl) : Bool := match a.m with
  | .bo => true
  | _ => false
def iSeq (f : En → R Vl) : En → R Itm := fun ρ => (f ρ).bind fun x => ofO (seq? x.d) fun l => .ok ⟨l, x.f, isBo x⟩
theorem seq_stay {F F' : Fp} {ρ ρ' : En} {σ σ' : L2.St} {Hs H1 H2 : Hp} (Rf : Fm X.K T F ρ σ H1) (R' : Fm X.K T F' ρ' σ' H2) (up : ∀ b, Ex (hpB F ρ σ H1 b) (hpB F' ρ' σ' H2 b)) {v : V} {x : Vl} {l : List D} (q : RepV X.K T F ρ σ v x Hs H1) (hl : seq? x.d = some l)
    (hb : isBo x = true → Ex H1 H2) : ∃ p vs, v = .ref p ∧ SqL X.K H2 p vs ∧ Reps X.K T (hpB F' ρ' σ' H2 x.f) vs l := by
  by_cases hb' : isBo x = true
  · obtain ⟨p, vs, h1, h2, h3⟩ := seq_of Rf q hl
    exact ⟨p, vs, h1, (hb hb').sqL h2, h3.mono (up _)⟩
  · have nb : x.m ≠ .bo := fun z => hb' (by unfold isBo; rw [z])
    have r := q.pl nb
    obtain ⟨d, m, f⟩ := x
    cases d with
    | lst l' =>
      cases hl
      cases (show Rep X.K T _ v (.lst l) from r) with
      | lst p vs _ h1 h2 => exact ⟨p, vs, rfl, SqL.of (R'.hH _ _ (up _ _ _ h1)), h2.mono (up _)⟩
    | lsk l' =>
      cases hl
      cases (show Rep X.K T _ v (.lsk l) from r) with
      | lsk p vs _ h1 h2 => exact ⟨p, vs, rfl, R'.hH.sqL ((up _).sqL h1), h2.mono (up _)⟩
    | _ => cases hl
theorem qi_seq (he : QE X T W e f) : QI X T W tg e (iSeq f) := by
  obtain ⟨te, pe, hf⟩ := he.ex
  refine ⟨⟨_, pi_list pe, fun F ρ σ H Rf Q h => ?_⟩⟩
  refine hf F ρ σ H Rf _ (h.bind stI fun x v H1 _ e1 q1 h1 => ?_)
  obtain ⟨l, hl, h1⟩ := Pst.ofO h1
  have Rf1 := Rf.mono e1
  obtain ⟨p, vs, rfl, h2, h3⟩ := seq_of Rf1 q1 hl
  refine ⟨p, rfl, ⟨vs, h2⟩, h1 _ H1 (Ex.refl _) fun F' ρ' σ' H2 R' up hb i => ?_⟩
  obtain ⟨p', ws, e', s1, s2⟩ := seq_stay Rf1 R' up q1 hl hb
  cases e'
  refine ⟨fun d hd => ?_, fun hi => ⟨ws, s1, by rw [s2.length]; exact hi⟩⟩
  obtain ⟨w, g1, g2⟩ := s2.get hd
  refine ⟨⟨ws, w, s1, g1⟩, fun y H' hy => ?_⟩
  obtain ⟨rfl, hy⟩ := hy
  refine ⟨Ex.refl _, ?_⟩
  have := hy ws s1
  rw [g1] at this
  cases this
  exact g2
def iTupl (f : En → R Vl) : En → R Itm := fun ρ => (f ρ).bind fun x => match x.d with
  | .tup l => .ok ⟨l, x.f, false⟩
  | _ => .bad
theorem qi_tup (he : QE X T W e f) : QI X T W tg e (iTupl f) := by
  obtain ⟨te, pe, hf⟩ := he.ex
  refine ⟨⟨_, pi_tup pe, fun F ρ σ H Rf Q h => ?_⟩⟩
  refine hf F ρ σ H Rf _ (h.bind stI fun x v H1 _ e1 q1 h1 => ?_)
  have Rf1 := Rf.mono e1
  split at h1
  · rename_i l hl
    have q := q1.sh Rf1.vH
    rw [hl] at q
    have q : Rep X.K T (hpB F ρ σ H1 x.f) v (.tup l) := q
    cases q with
    | tup p vs _ h2 h3 =>
      refine ⟨p, rfl, ⟨vs, Rf1.hH.sqT h2⟩, h1 _ H1 (Ex.refl _) fun F' ρ' σ' H2 R' up hb i => ?_⟩
      have s1 : SqT X.K H2 p vs := R'.hH.sqT ((up x.f).sqT h2)
      have s2 := h3.mono (up x.f)
      refine ⟨fun d hd => ?_, fun hi => ⟨vs, s1, by rw [s2.length]; exact hi⟩⟩
      obtain ⟨w, g1, g2⟩ := s2.get hd
      refine ⟨⟨vs, w, s1, g1⟩, fun y H' hy => ?_⟩
      obtain ⟨rfl, hy⟩ := hy
      refine ⟨Ex.refl _, ?_⟩
      have := hy vs s1
      rw [g1] at this
      cases this
      exact g2
  · exact h1.elim
def iStr' (f : En → R Vl) : En → R Itm := fun ρ => (f ρ).bind fun x => match x.d with
  | .str l => .ok ⟨l.map fun c => .str [c], true, false⟩
  | _ => .bad
theorem qi_str (he : QE X T W e f) : QI X T W tg e (iStr' f) := by
  obtain ⟨te, pe, hf⟩ := he.ex
  refine ⟨⟨_, pi_str pe, fun F ρ σ H Rf Q h => ?_⟩⟩
  refine hf F ρ σ H Rf _ (h.bind stI fun x v H1 _ e1 q1 h1 => ?_)
  have Rf1 := Rf.mono e1
  split at h1
  · rename_i l hl
    refine ⟨_, str_of Rf1 q1 hl, h1 _ H1 (Ex.refl _) fun F' ρ' σ' H2 R' up hb i => ?_⟩
    refine ⟨fun d hd => ?_, fun hi => ?_⟩
    · rw [List.getElem?_map] at hd
      obtain ⟨c, hc, rfl⟩ := Option.map_eq_some_iff.mp hd
      obtain ⟨hi, _⟩ := List.getElem?_eq_some_iff.mp hc
      refine ⟨by show i < l.toArray.size; simpa using hi, fun y H' hy => ?_⟩
      obtain ⟨rfl, c', hc', rfl⟩ := hy
      have e : c' = c := by
        have h2 : l.toArray[i]? = some c' := hc'
        rw [List.getElem?_toArray, hc] at h2
        exact (Option.some.inj h2).symm
      subst e
      exact ⟨Ex.refl _, Rep.str [c']⟩
    · show l.toArray.size ≤ i
      simpa using hi
  · exact h1.elim
/-- a list, a tuple or a text -/
def iAny (f : En → R Vl) : En → R Itm := fun ρ => (f ρ).bind fun x => match x.d with
  | .lst l => .ok ⟨l, x.f, isBo x⟩
  | .lsk l => .ok ⟨l, x.f, isBo x⟩
  | .tup l => .ok ⟨l, x.f, false⟩
  | .str l => .ok ⟨l.map fun c => .str [c], true, false⟩
  | _ => .bad
/-- range(n), range(a, b) -/
def rng (lo : Int) (n : Nat) : List D := (List.range n).map fun (i : Nat) => D.int (lo + (i : Int))
def iR1 (f : En → R Vl) : En → R Itm := fun ρ => (f ρ).bind fun x => ofO (int? x) fun n => if -1000000000 ≤ n ∧ n ≤ 1000000000 then .ok ⟨rng 0 n.toNat, true, false⟩ else .bad
def iR2 (f1 f2 : En → R Vl) : En → R Itm := fun ρ => (f1 ρ).bind fun x => (f2 ρ).bind fun y => ofO (int? x) fun m => ofO (int? y) fun n => if -1000000000 ≤ m ∧ m ≤ 1000000000 ∧ -1000000000 ≤ n ∧ n ≤ 1000000000 then .ok ⟨rng m (n - m).toNat, true, false⟩ else .bad
theorem rng_ok {K : PySem.W.Frag} {F : Fp} {ρ : En} {σ : L2.St} {H1 : Hp} (lo : Int) (n : Nat) : ItOk K T F ρ σ (Itr lo n) ⟨rng lo n, true, false⟩ H1 := fun F' ρ' σ' H2 R' up hb i => by
  refine ⟨fun d hd => ?_, fun hi => ?_⟩
  · unfold rng at hd
    rw [List.getElem?_map] at hd
    obtain ⟨c, hc, rfl⟩ := Option.map_eq_some_iff.mp hd
    obtain ⟨hi, hc'⟩ := List.getElem?_eq_some_iff.mp hc
    rw [List.length_range] at hi
    rw [List.getElem_range] at hc'
    subst hc'
    refine ⟨hi, fun y H' hy => ?_⟩
    obtain ⟨rfl, rfl⟩ := hy
    exact ⟨Ex.refl _, Rep.int _⟩
  · show n ≤ i
    have h : (rng lo n).length ≤ i := hi
    unfold rng at h
    simpa using h
theorem qi_r1 (hg : Gl X "range") (hm : X.mg "range" = none) (ha : QE X T W a f) (hs : starEach [a] X.env = [(false, eval a X.env)] := by rfl) : QI X T W tg (.Call (.Name "range" p) [a] [] pos) (iR1 f) := by
  obtain ⟨ta, pa, ha⟩ := ha.ex
  refine ⟨⟨_, pi_range1 hg hm (pa_cons pa pa_nil hs) hs, fun F ρ σ H Rf Q h => ?_⟩⟩
  refine ha F ρ σ H Rf _ (h.bind stI fun x v H1 _ e1 q1 h1 => ?_)
  obtain ⟨n, hn, h1⟩ := Pst.ofO h1
  split at h1
  · rename_i hb
    exact ⟨n, by rw [int_of (Rf.mono e1) q1 (int?_eq hn)], by omega, by omega, h1 _ H1 (Ex.refl _) (rng_ok 0 _)⟩
  · exact h1.elim
theorem qi_r2 (hg : Gl X "range") (hm : X.mg "range" = none) (ha : QE X T W a f1) (hb : QE X T W b f2) (hs : starEach [a, b] X.env = [(false, eval a X.env), (false, eval b X.env)] := by rfl) (hs2 : starEach [b] X.env = [(false, eval b X.env)] := by rfl) :
    QI X T W tg (.Call (.Name "range" p) [a, b] [] pos) (iR2 f1 f2) := by
  obtain ⟨ta, pa, ha⟩ := ha.ex
  obtain ⟨tb, pb, hb⟩ := hb.ex
  refine ⟨⟨_, pi_range2 hg hm (pa_cons pa (pa_cons pb pa_nil hs2) (by rw [hs, hs2])) hs hs2, fun F ρ σ H Rf Q h => ?_⟩⟩
  refine ha F ρ σ H Rf _ (h.bind stI fun x v H1 _ e1 q1 h1 => ?_)
  refine hb F ρ σ H1 (Rf.mono e1) _ (h1.bind stI fun y w H2 _ e2 q2 h2 => ?_)
  obtain ⟨m, hm, h2⟩ := Pst.ofO h2
  obtain ⟨n, hn, h2⟩ := Pst.ofO h2
  split at h2
  · rename_i hb
    have Rf2 := Rf.mono (e1.trans e2)
    exact ⟨m, n, by rw [int_of Rf2 (RepV.mono (Ex.refl _) e2 q1) (int?_eq hm), int_of Rf2 q2 (int?_eq hn)], ⟨by omega, by omega, by omega, by omega⟩, h2 _ H2 (Ex.refl _) (rng_ok _ _)⟩
  · exact h2.elim

/-! ### for -/
def loopF (h : D → Bool → En → Option En) (f : Bool) (g : En → Out) : List D → En → Out
  | [], ρ => .next ρ
  | d :: ds, ρ => match h d f ρ with
    | none => .bad
    | some ρ1 => match g ρ1 with
      | .next ρ2 => loopF h f g ds ρ2
      | .cont ρ2 => loopF h f g ds ρ2
      | .brk ρ2 => .next ρ2
      | o => o
def sFor (it : En → R Itm) (h : D → Bool → En → Option En) (g : En → Out) : En → Out := fun ρ => (it ρ).toOut ρ fun a => if a.b then .bad else loopF h a.f g a.ds ρ
theorem s_for {iter : Expr} {body : List Stmt} {it : En → R Itm} {is : List Nat} {h : D → Bool → En → Option En} {g : En → Out} (hp : PassesOwn (model X.prog X.w) X.A X.env X.xe) (hc : X.calm = true) (hi : QI X T W tg iter it) (hg : QG X T tg is h) (hb : QSs X T W body g)
    (hs : ∀ x, foldedSetIterable iter X.env x = pure x := by intro _; rfl) : QS X T W (.For tg iter body [] pos) (sFor it h g) := by
  obtain ⟨w, pw, hw⟩ := hi.ex
  obtain ⟨tgt, pg, hg⟩ := hg.ex
  obtain ⟨tb, pb, hb⟩ := hb.ex
  refine ⟨⟨_, ps_for hp hc pw pg pb hs, fun F ρ σ H Rf E hq => ?_⟩⟩
  refine hw F ρ σ H Rf _ (Pst.out Rf hq fun a J H1 _ e1 q1 h1 => ?_)
  have Rf1 := Rf.mono e1
  have hbo : a.b = false := by
    cases hb' : a.b with
    | false => rfl
    | true => rw [hb'] at h1; exact h1.elim
  rw [hbo] at h1
  have h1 : PO X.K T F W (visB F ρ σ H1) (loopF h a.f g a.ds ρ) E := PO.pre (vis_mono e1) h1
  refine ⟨fun i m σ' H' => ∃ ρ', Fm X.K T F ρ' σ' H' ∧ Ex (visB F ρ σ H1) (visB F ρ' σ' H') ∧ i + m = a.ds.length ∧ PO X.K T F W (visB F ρ' σ' H') (loopF h a.f g (a.ds.drop i) ρ') E,
    ⟨a.ds.length, ρ, Rf1, Ex.refl _, by omega, h1⟩, ?_⟩
  rintro i m σ' H' ⟨ρ', R', x', em, hq'⟩
  have it := q1 F ρ' σ' H' R' (fun b => hp_of_vis x') (fun z => by rw [hbo] at z; cases z) i
  cases hd : a.ds[i]? with
  | none =>
    have hi : a.ds.length ≤ i := List.getElem?_eq_none_iff.mp hd
    rw [List.drop_eq_nil_of_le hi] at hq'
    exact .inl ⟨it.2 hi, hq' σ' H' R' (Ex.refl _)⟩
  | some d =>
    obtain ⟨hi, hd'⟩ := List.getElem?_eq_some_iff.mp hd
    rw [List.drop_eq_getElem_cons hi, hd'] at hq'
    obtain ⟨go, yl⟩ := it.1 d hd
    refine .inr ⟨go, fun σ2 H2 => ∃ ρ2, Fm X.K T F ρ2 σ2 H2 ∧ Ex (visB F ρ σ H1) (visB F ρ2 σ2 H2) ∧ PO X.K T F W (visB F ρ2 σ2 H2) (loopF h a.f g (a.ds.drop (i + 1)) ρ2) E, fun σ2 H2 ⟨ρ2, R2, x2, z2⟩ => ⟨m - 1, by omega, ρ2, R2, x2, by omega, z2⟩, fun x H2 hx => ?_⟩
    obtain ⟨e2, r2⟩ := yl x H2 hx
    have R2 := R'.mono e2
    unfold loopF at hq'
    cases hh : h d a.f ρ' with
    | none => rw [hh] at hq'; exact hq'.elim
    | some ρ1 =>
      rw [hh] at hq'
      refine hg F ρ' σ' H2 R2 x d a.f r2 ρ1 hh _ fun σ1 R1 x1 _ _ _ => ?_
      have xx : Ex (visB F ρ' σ' H') (visB F ρ1 σ1 H2) := (vis_mono e2).trans x1
      refine hb F ρ1 σ1 H2 R1 _ ?_
      have hq' : PO X.K T F W (visB F ρ' σ' H') (match g ρ1 with
        | .next ρ2 => loopF h a.f g (a.ds.drop (i + 1)) ρ2
        | .cont ρ2 => loopF h a.f g (a.ds.drop (i + 1)) ρ2
        | .brk ρ2 => .next ρ2
        | o => o) E := hq'
      cases ho : g ρ1 with
      | next ρ2 =>
        rw [ho] at hq'
        exact fun σ3 H3 R3 x3 => ⟨ρ2, R3, x'.trans (xx.trans x3), PO.pre (xx.trans x3) hq'⟩
      | cont ρ2 =>
        rw [ho] at hq'
        exact fun σ3 H3 R3 x3 => ⟨ρ2, R3, x'.trans (xx.trans x3), PO.pre (xx.trans x3) hq'⟩
      | brk ρ2 =>
        rw [ho] at hq'
        exact fun σ3 H3 R3 x3 => hq' σ3 H3 R3 (xx.trans x3)
      | ret v => rw [ho] at hq'; exact hq'
      | exc ρ2 c l =>
        rw [ho] at hq'
        exact PO.pre xx hq'
      | bad => rw [ho] at hq'; exact hq'.elim
/-! ### while -/
def whileF (t : En → R Bool) (g : En → Out) : Nat → En → Out
  | 0, _ => .bad
  | n + 1, ρ => (t ρ).toOut ρ fun b => if b then (match g ρ with
    | .next ρ2 => whileF t g n ρ2
    | .cont ρ2 => whileF t g n ρ2
    | .brk ρ2 => .next ρ2
    | o => o) else .next ρ
theorem s_while (n : Nat) {c : Expr} {body : List Stmt} {t : En → R Bool} {g : En → Out} (hp : PassesOwn (model X.prog X.w) X.A X.env X.xe) (hc : QT X T W c t) (hb : QSs X T W body g) : QS X T W (.While c body [] pos) (whileF t g n) := by
  obtain ⟨tc, pc, hc⟩ := hc.ex
  obtain ⟨tb, pb, hb⟩ := hb.ex
  refine ⟨⟨_, ps_while hp pc pb, fun F ρ σ H Rf E hq => ?_⟩⟩
  refine ⟨fun m σ' H' => ∃ ρ', Fm X.K T F ρ' σ' H' ∧ Ex (visB F ρ σ H) (visB F ρ' σ' H') ∧ PO X.K T F W (visB F ρ' σ' H') (whileF t g m ρ') E, ⟨n, ρ, Rf, Ex.refl _, hq⟩, ?_⟩
  rintro m σ' H' ⟨ρ', R', x', hq'⟩
  cases m with
  | zero => exact hq'.elim
  | succ m =>
    unfold whileF at hq'
    refine hc F ρ' σ' H' R' _ (Pst.out R' hq' fun k b H1 _ e1 q1 h1 => ?_)
    rw [q1]
    have R1 := R'.mono e1
    cases k with
    | false => exact h1 σ' H1 R1 (vis_mono e1)
    | true =>
      refine ⟨fun σ2 H2 => ∃ ρ2, Fm X.K T F ρ2 σ2 H2 ∧ Ex (visB F ρ σ H) (visB F ρ2 σ2 H2) ∧ PO X.K T F W (visB F ρ2 σ2 H2) (whileF t g m ρ2) E, fun σ2 H2 ⟨ρ2, R2, x2, z2⟩ => ⟨m, Nat.lt_succ_self _, ρ2, R2, x2, z2⟩, ?_⟩
      refine hb F ρ' σ' H1 R1 _ ?_
      have xx := vis_mono (F := F) (ρ := ρ') (σ := σ') e1
      have h1 : PO X.K T F W (visB F ρ' σ' H') (match g ρ' with
        | .next ρ2 => whileF t g m ρ2
        | .cont ρ2 => whileF t g m ρ2
        | .brk ρ2 => .next ρ2
        | o => o) E := h1
      cases ho : g ρ' with
      | next ρ2 =>
        rw [ho] at h1
        exact fun σ3 H3 R3 x3 => ⟨ρ2, R3, x'.trans (xx.trans x3), PO.pre (xx.trans x3) h1⟩
      | cont ρ2 =>
        rw [ho] at h1
        exact fun σ3 H3 R3 x3 => ⟨ρ2, R3, x'.trans (xx.trans x3), PO.pre (xx.trans x3) h1⟩
      | brk ρ2 =>
        rw [ho] at h1
        exact fun σ3 H3 R3 x3 => h1 σ3 H3 R3 (xx.trans x3)
      | ret v => rw [ho] at h1; exact h1
      | exc ρ2 c l =>
        rw [ho] at h1
        exact PO.pre xx h1
      | bad => rw [ho] at h1; exact h1.elim
end
end Ev
set_option maxHeartbeats 1000000
/-! Ev7: comprehensions, stores. -/
namespace Ev
open PySem L2

/-! ### comprehensions -/
def W0 : WX := fun _ _ _ _ => False
def canG (K : PySem.W.Frag) (T : Tb) (is : List Nat) (h : D → Bool → En → Option En) : TG := fun v σ H Q => ∃ F ρ d f ρ', Fm K T F ρ σ H ∧ Rep K T (hpB F ρ σ H f) v d ∧ h d f ρ = some ρ' ∧ TgPost K T F is ρ σ H ρ' Q
theorem QG.can {X : Cx} {T : Tb} {tg : Expr} {is : List Nat} {h : D → Bool → En → Option En} (q : QG X T tg is h) : PG X tg (canG X.K T is h) := by
  obtain ⟨g, pg, hg⟩ := q.ex
  exact ⟨fun pins s σ H v u Q I r ⟨F, ρ, d, f, ρ', Rf, hr, e, hq⟩ => pg.run pins s σ H v u Q I r (hg F ρ σ H Rf v d f hr ρ' e Q hq)⟩
structure QTs (X : Cx) (T : Tb) (W : WX) (ifs : List Expr) (t : En → R Bool) : Prop where
  can : PTs X ifs (canT X.K T W t)
def tTrue : En → R Bool := fun _ => .ok true
theorem qts_nil {X : Cx} {T : Tb} {W : WX} : QTs X T W [] tTrue := ⟨⟨fun pins s σ H Q I ⟨F, ρ, Rf, hq⟩ => pts_nil.run pins s σ H Q I (hq true H (Ex.refl _) rfl)⟩⟩
theorem qts_one {X : Cx} {T : Tb} {W : WX} {c : Expr} {t : En → R Bool} (h : QT X T W c t) : QTs X T W [c] t := ⟨pts_one h.can⟩
def lcF (h : D → Bool → En → Option En) (f : Bool) (t : En → R Bool) (el : En → R Vl) (ρ : En) : List D → R (List D × Bool)
  | [] => .ok ([], true)
  | d :: ds => match h d f ρ with
    | none => .bad
    | some ρ1 => match t ρ1 with
      | .ok true => match el ρ1 with
        | .ok y => if nb? y = true then (match lcF h f t el ρ ds with
          | .ok p => .ok (y.d :: p.1, (y.f || scalar y.d) && p.2)
          | _ => .bad) else .bad
        | _ => .bad
      | .ok false => lcF h f t el ρ ds
      | _ => .bad
def wipeE (ρ : En) : List Nat → En
  | [] => ρ
  | v :: vs => (wipeE ρ vs).set v .un
def isOw (ρ : En) (i : Nat) : Bool := match ρ[i]? with
  | some (.ow _ _) => true
  | _ => false
def eLc (it : En → R Itm) (h : D → Bool → En → Option En) (t : En → R Bool) (el : En → R Vl) (own : List Nat) : En → R Vl := fun ρ => (it ρ).bind fun a =>
  if own.all (fun i => !isOw ρ i) = true ∧ a.ds.length ≤ 1000000 then (match lcF h a.f t el (wipeE ρ own) a.ds with
    | .ok p => .ok ⟨.lst p.1, .nw, p.2⟩
    | _ => .bad) else .bad
section
variable {K : PySem.W.Frag} {T : Tb} {F : Fp} {ρ : En} {σ : L2.St} {H H1 : Hp}
theorem fm_hide (Rf : Fm K T F ρ σ H1) {p : Addr} (hp : H1 p = none) (e : Ex H1 H) {o : HO} (ho : H p = some o) : Fm K T (F.hide p) ρ σ H := by
  obtain ⟨nh, h0⟩ := Rf.nohid hp
  refine ⟨Rf.ex.trans e, Rf.sub, Rf.len, fun i x hx => ?_, Rf.dis, fun a ha => ?_⟩
  · have q := Rf.sl i x hx
    cases x with
    | un => exact True.intro
    | ex _ _ => exact ⟨q.1, q.2.1, q.2.2.mono (hp_born (f := false) Rf hp e) e⟩
    | sh d f =>
      obtain ⟨v, q1, q2⟩ := q
      exact ⟨v, q1, q2.mono (hp_born Rf hp e)⟩
    | ow d f =>
      obtain ⟨p', q1, q2, q3, q4, q5⟩ := q
      refine ⟨p', q1, q2, q3.mono e (hp_born Rf hp e), fun z => ?_, q5⟩
      rcases List.mem_cons.mp z with z | z
      · subst z
        exact nh (.inl ⟨i, d, f, hx, q1⟩)
      · exact q4 z
  · rcases List.mem_cons.mp ha with z | z
    · subst z
      exact ⟨h0, o, ho⟩
    · obtain ⟨g1, u, g2⟩ := Rf.hid a z
      exact ⟨g1, u, e _ _ g2⟩
theorem fm_wipe (Rf : Fm K T F ρ σ H) : ∀ own : List Nat, Fm K T F (wipeE ρ own) (wipe σ own) H ∧ ∀ a, Hid F (wipeE ρ own) (wipe σ own) a → Hid F ρ σ a
  | [] => ⟨Rf, fun _ h => h⟩
  | v :: vs => by
    obtain ⟨R1, h1⟩ := fm_wipe Rf vs
    unfold wipeE wipe
    by_cases hv : v < (wipeE ρ vs).length
    · have r := fm_set (x := .un) (o := none) R1 hv (fun _ _ h => nomatch h) True.intro
      refine ⟨r.1, fun a h => h1 a ?_⟩
      rcases h with h | h
      · rcases owned_set h hv (by rw [← R1.len]; exact hv) with h | ⟨_, _, h, _⟩
        · exact .inl h
        · cases h
      · exact .inr h
    · rw [List.set_eq_of_length_le (by omega), List.set_eq_of_length_le (by rw [← R1.len]; omega)]
      exact ⟨R1, h1⟩
theorem wipe_get {σ : L2.St} {j : Nat} : ∀ {vs : List Nat}, j ∉ vs → (wipe σ vs)[j]? = σ[j]?
  | [], _ => rfl
  | v :: vs, h => by
    unfold wipe
    have ne : v ≠ j := fun z => h (by simp [z])
    rw [List.getElem?_set_ne ne]
    exact wipe_get fun z => h (List.mem_cons_of_mem _ z)
theorem wipeE_get {ρ : En} {j : Nat} : ∀ {vs : List Nat}, j ∉ vs → (wipeE ρ vs)[j]? = ρ[j]?
  | [], _ => rfl
  | v :: vs, h => by
    unfold wipeE
    have ne : v ≠ j := fun z => h (by simp [z])
    rw [List.getElem?_set_ne ne]
    exact wipeE_get fun z => h (List.mem_cons_of_mem _ z)
theorem wipe_in {σ : L2.St} {j : Nat} (hj : j < σ.length) : ∀ {vs : List Nat}, j ∈ vs → (wipe σ vs)[j]? = some none
  | v :: vs, h => by
    unfold wipe
    by_cases e : v = j
    · subst e
      rw [List.getElem?_set_self (by rw [wipe_length]; exact hj)]
    · rw [List.getElem?_set_ne e]
      rcases List.mem_cons.mp h with h | h
      · exact absurd h.symm e
      · exact wipe_in hj h
theorem wipe_same {σ σ2 : L2.St} {vs : List Nat} (hl : σ2.length = σ.length) (h : ∀ j, j ∉ vs → σ2[j]? = σ[j]?) : wipe σ2 vs = wipe σ vs := by
  refine List.ext_getElem? fun j => ?_
  by_cases hj : j ∈ vs
  · by_cases hl2 : j < σ.length
    · rw [wipe_in hl2 hj, wipe_in (by rw [hl]; exact hl2) hj]
    · rw [List.getElem?_eq_none (by rw [wipe_length]; omega), List.getElem?_eq_none (by rw [wipe_length]; omega)]
  · rw [wipe_get hj, wipe_get hj]
    exact h j hj
end
section
variable {X : Cx} {T : Tb} {W : WX}
theorem lc_te {wi : TI} {it : En → R Itm} {is : List Nat} {h : D → Bool → En → Option En} {t : En → R Bool} {el : En → R Vl} {own : List Nat} (hs : ∀ i ∈ is, i ∈ own)
    (hw : ∀ F ρ σ H, Fm X.K T F ρ σ H → ∀ Q, Pst ⟨X.K, T, F, ρ, σ, W⟩ (fun (J : It) (a : Itm) (_ H1 : Hp) => ItOk X.K T F ρ σ J a H1) (it ρ) H Q → wi σ H Q) :
    ∀ F ρ σ H, Fm X.K T F ρ σ H → ∀ Q, Pst ⟨X.K, T, F, ρ, σ, W⟩ (relE ⟨X.K, T, F, ρ, σ, W⟩) (eLc it h t el own ρ) H Q → tLc wi (canG X.K T is h) (canT X.K T W0 t) (canE X.K T W0 el) own σ H Q := fun F ρ σ H Rf Q hq => by
  refine hw F ρ σ H Rf _ (hq.bind (stE _) fun a J H1 ea e1 q1 h1 => ?_)
  have Rf1 := Rf.mono e1
  have hc : own.all (fun i => !isOw ρ i) = true ∧ a.ds.length ≤ 1000000 := Decidable.byContradiction fun z => by
    have h1 := h1
    rw [if_neg z] at h1
    exact h1
  rw [if_pos hc] at h1
  obtain ⟨hno, hlen⟩ := hc
  have now : ∀ j ∈ own, ∀ d f, ρ[j]? ≠ some (.ow d f) := fun j hj d f z => by
    have q := List.all_eq_true.mp hno j hj
    unfold isOw at q
    rw [z] at q
    cases q
  cases hl : lcF h a.f t el (wipeE ρ own) a.ds with
  | exc c l => rw [hl] at h1; exact h1.elim
  | bad => rw [hl] at h1; exact h1.elim
  | ok p =>
  rw [hl] at h1
  obtain ⟨l, g⟩ := p
  have h1 : Pst ⟨X.K, T, F, ρ, σ, W⟩ (relE ⟨X.K, T, F, ρ, σ, W⟩) (.ok ⟨.lst l, .nw, g⟩) H1 Q := h1
  intro D hD
  have bornH : ∀ {H2 : Hp}, Ex H1 H2 → ∀ {f : Bool}, Ex (hpB F ρ σ H1 f) (hpB (F.hide D) ρ σ H2 f) := fun e => hp_born Rf1 hD e
  refine ⟨fun i m H2 => i + m = a.ds.length ∧ Ex H1 H2 ∧ ∃ acc l1 l2 g2, H2 D = some (.lst acc) ∧ Reps X.K T (hpB (F.hide D) ρ σ H2 g) acc l1 ∧ lcF h a.f t el (wipeE ρ own) (a.ds.drop i) = .ok (l2, g2) ∧ (g = true → g2 = true) ∧ l1 ++ l2 = l ∧ l1.length ≤ i,
    ⟨a.ds.length, by omega, Ex.new hD, [], [], l, g, upd_same, .nil, hl, fun z => z, rfl, Nat.le_refl _⟩, ?_⟩
  rintro i m H2 ⟨em, x2, acc, l1, l2, g2, hacc, hr, hl2, hg2, hll, hln⟩
  have R2 : Fm X.K T (F.hide D) ρ σ H2 := fm_hide Rf1 hD x2 hacc
  obtain ⟨Rw, hhw⟩ := fm_wipe R2 own
  have it2 := q1 (F.hide D) (wipeE ρ own) (wipe σ own) H2 Rw (fun b => (bornH x2).trans (hp_sub rfl rfl hhw)) (fun _ => x2) i
  cases hd : a.ds[i]? with
  | none =>
    have hi : a.ds.length ≤ i := List.getElem?_eq_none_iff.mp hd
    rw [List.drop_eq_nil_of_le hi] at hl2
    unfold lcF at hl2
    injection hl2 with hl2
    cases hl2
    rw [List.append_nil] at hll
    subst hll
    refine .inl ⟨it2.2 hi, h1 (.ref D) H2 x2 ⟨D, rfl, hD, (Rf1.nohid hD).2, (Rf1.nohid hD).1, rfl, D, acc, rfl, hacc, hr⟩⟩
  | some d =>
    obtain ⟨hi, hd'⟩ := List.getElem?_eq_some_iff.mp hd
    rw [List.drop_eq_getElem_cons hi, hd'] at hl2
    obtain ⟨go, yl⟩ := it2.1 d hd
    refine .inr ⟨go, fun H' => Ex H1 H' ∧ ∃ acc l1 l2 g2, H' D = some (.lst acc) ∧ Reps X.K T (hpB (F.hide D) ρ σ H' g) acc l1 ∧ lcF h a.f t el (wipeE ρ own) (a.ds.drop (i + 1)) = .ok (l2, g2) ∧ (g = true → g2 = true) ∧ l1 ++ l2 = l ∧ l1.length ≤ i + 1,
      fun H' ⟨z1, z2⟩ => ⟨m - 1, by omega, by omega, z1, z2⟩, fun x H3 hx => ?_⟩
    obtain ⟨e3, r3⟩ := yl x H3 hx
    unfold lcF at hl2
    cases hh : h d a.f (wipeE ρ own) with
    | none => rw [hh] at hl2; cases hl2
    | some ρ1 =>
      rw [hh] at hl2
      refine ⟨F.hide D, wipeE ρ own, d, a.f, ρ1, Rw.mono e3, r3, hh, fun σ2 R3 x3 ls lr k3 => ?_⟩
      refine ⟨(wipe_same ls fun j hj => (k3 j fun z => hj (hs j z)).1).trans (wipe_same (wipe_length _ _) fun j hj => wipe_get hj), ?_⟩
      have back : ∀ b, Hid (F.hide D) ρ σ b → Hid (F.hide D) ρ1 σ2 b := fun b hb => by
        rcases hb with ⟨j, d', f', z1, z2⟩ | hb
        · have nj : j ∉ own := fun z => now j z _ _ z1
          have nj2 : j ∉ is := fun z => nj (hs j z)
          refine .inl ⟨j, d', f', ?_, ?_⟩
          · rw [(k3 j nj2).2, wipeE_get nj]
            exact z1
          · rw [(k3 j nj2).1, wipe_get nj]
            exact z2
        · exact .inr hb
      have hidD : Hid (F.hide D) ρ σ D := .inr (List.mem_cons_self ..)
      refine ⟨F.hide D, ρ1, R3, ?_⟩
      have hl2 : (match t ρ1 with
        | .ok true => match el ρ1 with
          | .ok y => if nb? y = true then (match lcF h a.f t el (wipeE ρ own) (a.ds.drop (i + 1)) with
            | .ok p => (.ok (y.d :: p.1, (y.f || scalar y.d) && p.2) : R (List Ev.D × Bool))
            | _ => .bad) else .bad
          | _ => .bad
        | .ok false => lcF h a.f t el (wipeE ρ own) (a.ds.drop (i + 1))
        | _ => .bad) = .ok (l2, g2) := hl2
      cases ht : t ρ1 with
      | exc c l => rw [ht] at hl2; cases hl2
      | bad => rw [ht] at hl2; cases hl2
      | ok b =>
        rw [ht] at hl2
        refine fun b' H4 e4 eb => ?_
        have eb : b' = b := eb
        subst eb
        have x4 : Ex H2 H4 := e3.trans e4
        cases b' with
        | false =>
          refine iteF ?_
          exact ⟨x2.trans x4, acc, l1, l2, g2, x4 _ _ hacc, hr.mono (hp_mono x4), hl2, hg2, hll, Nat.le_succ_of_le hln⟩
        | true =>
          refine iteT ?_
          refine ⟨F.hide D, ρ1, R3.mono e4, ?_⟩
          have hl2 : (match el ρ1 with
            | .ok y => if nb? y = true then (match lcF h a.f t el (wipeE ρ own) (a.ds.drop (i + 1)) with
              | .ok p => (.ok (y.d :: p.1, (y.f || scalar y.d) && p.2) : R (List Ev.D × Bool))
              | _ => .bad) else .bad
            | _ => .bad) = .ok (l2, g2) := hl2
          cases he : el ρ1 with
          | exc c l => rw [he] at hl2; cases hl2
          | bad => rw [he] at hl2; cases hl2
          | ok y =>
            rw [he] at hl2
            have hl2 : (if nb? y = true then (match lcF h a.f t el (wipeE ρ own) (a.ds.drop (i + 1)) with
              | .ok p => (.ok (y.d :: p.1, (y.f || scalar y.d) && p.2) : R (List Ev.D × Bool))
              | _ => .bad) else .bad) = .ok (l2, g2) := hl2
            split at hl2
            · rename_i hnb
              split at hl2
              · rename_i p hp
                injection hl2 with hl2
                obtain ⟨pl1, pg⟩ := p
                cases hl2
                refine fun vy H5 e5 ry => ?_
                have x5 : Ex H2 H5 := x4.trans e5
                have ry : RepV X.K T (F.hide D) ρ1 σ2 vy y H4 H5 := ry
                have ry2 : Rep X.K T (hpB (F.hide D) ρ1 σ2 H5 (y.f || scalar y.d)) vy y.d := repV_pl (Hs := H4) (ry.pl (nb_of hnb))
                have hfl : g = true → (y.f || scalar y.d) = true ∧ pg = true := fun z => Bool.and_eq_true_iff.mp (hg2 z)
                refine ⟨acc, x5 _ _ hacc, ?_, ?_⟩
                · rw [hr.length]
                  have : i < a.ds.length := hi
                  exact lt_line (by omega)
                · refine ⟨fun b o hb => ?_, acc ++ [vy], l1 ++ [y.d], pl1, pg, upd_same, ?_, hp, fun z => (hfl z).2, ?_, ?_⟩
                  · rw [upd_ne (ne_of_none hb hD)]
                    exact x5 _ _ (x2 _ _ hb)
                  · refine Reps.mono (hp_upd hidD) ((hr.mono (hp_mono x5)).append (.cons _ _ _ _ (ry2.mono ?_) .nil))
                    exact (hp_le fun z => (hfl z).1).trans (hp_sub rfl rfl back)
                  · rw [List.append_assoc]
                    exact hll
                  · rw [List.length_append]
                    exact Nat.succ_le_succ hln
              · cases hl2
            · cases hl2
theorem q_lc {elt tg iter : Expr} {ifs : List Expr} {scope : Scope} (own : List (Str × Nat)) {pos : Pos} {it : En → R Itm} {is : List Nat} {h : D → Bool → En → Option En} {t : En → R Bool} {el : En → R Vl} (hc : X.calm = true) (hN : X.N.Nodup) (hi : QI X T W tg iter it) (ok : BlkOk X.N X.env.scope scope own) (his : ∀ i ∈ is, i ∈ own.map (·.2))
    (hg : ∀ (s : Shared) (H : Hp) (C : Addr) (cl : List (Str × Addr)) (fp : List Addr), QG (X.blk s H scope (compEnvC scope cl C X.env) fp) T tg is h) (ht : ∀ (s : Shared) (H : Hp) (C : Addr) (cl : List (Str × Addr)) (fp : List Addr), QTs (X.blk s H scope (compEnvC scope cl C X.env) fp) T W0 ifs t)
    (he : ∀ (s : Shared) (H : Hp) (C : Addr) (cl : List (Str × Addr)) (fp : List Addr), QE (X.blk s H scope (compEnvC scope cl C X.env) fp) T W0 elt el) (hs : ∀ x, foldedSetIterable iter X.env x = pure x := by intro _; rfl) :
    QE X T W (.ListComp elt [⟨tg, iter, ifs, 0⟩] scope pos) (eLc it h t el (own.map (·.2))) := by
  obtain ⟨w, pw, hw⟩ := hi.ex
  exact ⟨⟨_, pe_lc hc hN pw ok (fun s H C cl fp => (hg s H C cl fp).can) (fun s H C cl fp => (ht s H C cl fp).can) (fun s H C cl fp => (he s H C cl fp).can) hs, lc_te his hw⟩⟩
theorem s_lcA (i : Nat) {y : Str} {py : Pos} {elt tg iter : Expr} {ifs : List Expr} {scope : Scope} (own : List (Str × Nat)) {pos spos : Pos} {it : En → R Itm} {is : List Nat} {h : D → Bool → En → Option En} {t : En → R Bool} {el : En → R Vl} (hc : X.calm = true) (hN : X.N.Nodup) (hy : X.N[i]? = some y) (hyl : X.env.scope.names.lookup y = some .local)
    (hsw : swapsWith (.ListComp elt [⟨tg, iter, ifs, 0⟩] scope pos) (some (.Name y py)) spos.line X.env = pure true) (hi : QI X T W tg iter it) (ok : BlkOk X.N X.env.scope scope own) (his : ∀ i ∈ is, i ∈ own.map (·.2))
    (hg : ∀ (s : Shared) (H : Hp) (C : Addr) (cl : List (Str × Addr)) (fp : List Addr), QG (X.blk s H scope (compEnvC scope cl C X.env) fp) T tg is h) (ht : ∀ (s : Shared) (H : Hp) (C : Addr) (cl : List (Str × Addr)) (fp : List Addr), QTs (X.blk s H scope (compEnvC scope cl C X.env) fp) T W0 ifs t)
    (he : ∀ (s : Shared) (H : Hp) (C : Addr) (cl : List (Str × Addr)) (fp : List Addr), QE (X.blk s H scope (compEnvC scope cl C X.env) fp) T W0 elt el) (hs : ∀ x, foldedSetIterable iter X.env x = pure x := by intro _; rfl) :
    QS X T W (.Assign [.Name y py] (.ListComp elt [⟨tg, iter, ifs, 0⟩] scope pos) spos) (sAsg i (eLc it h t el (own.map (·.2)))) := by
  obtain ⟨w, pw, hw⟩ := hi.ex
  exact ⟨⟨_, ps_setLc hc hN hy hyl hsw pw ok (fun s H C cl fp => (hg s H C cl fp).can) (fun s H C cl fp => (ht s H C cl fp).can) (fun s H C cl fp => (he s H C cl fp).can) hs, asg_te (lc_te his hw)⟩⟩
theorem s_lcO (i : Nat) {y : Str} {py : Pos} {elt tg iter : Expr} {ifs : List Expr} {scope : Scope} (own : List (Str × Nat)) {pos spos : Pos} {it : En → R Itm} {is : List Nat} {h : D → Bool → En → Option En} {t : En → R Bool} {el : En → R Vl} (hc : X.calm = true) (hN : X.N.Nodup) (hy : X.N[i]? = some y) (hyl : X.env.scope.names.lookup y = some .local)
    (hsw : swapsWith (.ListComp elt [⟨tg, iter, ifs, 0⟩] scope pos) (some (.Name y py)) spos.line X.env = pure true) (hi : QI X T W tg iter it) (ok : BlkOk X.N X.env.scope scope own) (his : ∀ i ∈ is, i ∈ own.map (·.2))
    (hg : ∀ (s : Shared) (H : Hp) (C : Addr) (cl : List (Str × Addr)) (fp : List Addr), QG (X.blk s H scope (compEnvC scope cl C X.env) fp) T tg is h) (ht : ∀ (s : Shared) (H : Hp) (C : Addr) (cl : List (Str × Addr)) (fp : List Addr), QTs (X.blk s H scope (compEnvC scope cl C X.env) fp) T W0 ifs t)
    (he : ∀ (s : Shared) (H : Hp) (C : Addr) (cl : List (Str × Addr)) (fp : List Addr), QE (X.blk s H scope (compEnvC scope cl C X.env) fp) T W0 elt el) (hs : ∀ x, foldedSetIterable iter X.env x = pure x := by intro _; rfl) :
    QS X T W (.Assign [.Name y py] (.ListComp elt [⟨tg, iter, ifs, 0⟩] scope pos) spos) (sOwn i (eLc it h t el (own.map (·.2)))) := by
  obtain ⟨w, pw, hw⟩ := hi.ex
  exact ⟨⟨_, ps_setLc hc hN hy hyl hsw pw ok (fun s H C cl fp => (hg s H C cl fp).can) (fun s H C cl fp => (ht s H C cl fp).can) (fun s H C cl fp => (he s H C cl fp).can) hs, own_te (lc_te his hw)⟩⟩

/-! ### stores into an owned object -/
variable {e a b o : Expr} {f f1 f2 : En → R Vl} {pos pos' apos : Pos}
/-- xs.append(e), xs in the slot i -/
def sApp (i : Nat) (f : En → R Vl) : En → Out := fun ρ => match ρ[i]? with
  | some (.ow (.lst l) g) => (f ρ).toOut ρ fun a => if nb? a = true ∧ l.length < 1000000 then .next (ρ.set i (.ow (.lst (l ++ [a.d])) (g && (a.f || scalar a.d)))) else .bad
  | _ => .bad
theorem tru_or {f s : Bool} (h : (f || s) = true) : f = true ∨ s = true := Bool.or_eq_true_iff.mp h
theorem s_app (i : Nat) {x : Str} {p : Pos} (hN : X.N[i]? = some x) (hv : Vis X.env.scope x) (he : QE X T W e f)
    (hd : (x == ("__debug__" : Str)) = false := by decide) (hcd : (x == ("__classdict__" : Str)) = false := by decide)
    (hpe : ∀ {te : TE}, PE X e te → PE X (.Call (.Attribute (.Name x p) "append" apos) [e] [] pos) (tBM X.K "list" rAppend (tVar i) (tCons te tNil))) (hs : swapsWith (.Call (.Attribute (.Name x p) "append" apos) [e] [] pos) none pos'.line X.env = pure false := by rfl) :
    QS X T W (.Expr (.Call (.Attribute (.Name x p) "append" apos) [e] [] pos) pos') (sApp i f) := by
  obtain ⟨te, pe, hf⟩ := he.ex
  refine ⟨⟨_, ps_expr (hpe pe) hs, fun F ρ σ H Rf E hq => ?_⟩⟩
  unfold sApp at hq
  split at hq
  · rename_i l g hρ
    obtain ⟨p, q1, q2, q3, q4, q5, q6⟩ := Rf.sl i _ hρ
    obtain ⟨_, vs, z, h3, h4⟩ := q3
    cases z
    refine ⟨.ref p, q1, .inl ⟨rfl, _, SqL.of h3⟩, ?_⟩
    refine hf F ρ σ H Rf _ (Pst.out Rf hq fun a v H1 _ e1 r1 h1 => ?_)
    have hc : nb? a = true ∧ l.length < 1000000 := Decidable.byContradiction fun z => by rw [if_neg z] at h1; exact h1
    rw [if_pos hc] at h1
    have Rf1 := Rf.mono e1
    have h4' := h4.mono (hp_mono (F := F) (ρ := ρ) (σ := σ) (f := g) e1)
    have rv := repV_pl (K := X.K) (T := T) (Hs := H) (r1.pl (nb_of hc.1))
    have rv : Rep X.K T (hpB F ρ σ H1 (a.f || scalar a.d)) v a.d := rv
    have put := fm_put (f' := g && (a.f || scalar a.d)) (d' := .lst (l ++ [a.d])) (o := .lst (vs ++ [v])) Rf1 hρ q1 rfl (fun z => nomatch z) fun G hG => ⟨p, _, rfl, upd_same, ?_⟩
    · exact ⟨p, vs, v, rfl, rfl, e1 _ _ h3, by rw [h4.length]; exact lt_line hc.2, h1 _ _ put.1 ((vis_mono e1).trans put.2)⟩
    · refine (h4'.mono ((hp_le fun z => (Bool.and_eq_true_iff.mp z).1).trans hG)).append (.cons _ _ _ _ (rv.mono ((hp_le fun z => (Bool.and_eq_true_iff.mp z).2).trans hG)) .nil)
  · exact hq.elim
/-- xs[j] = e, xs in the slot i -/
def sSetI (i : Nat) (fj f : En → R Vl) : En → Out := fun ρ => (f ρ).toOut ρ fun a => match ρ[i]? with
  | some (.ow (.lst l) g) => (fj ρ).toOut ρ fun y => match int? y with
    | some k => match ixN l.length k with
      | some j => if nb? a = true then .next (ρ.set i (.ow (.lst (l.set j a.d)) (g && (a.f || scalar a.d)))) else .bad
      | none => .bad
    | none => .bad
  | _ => .bad
theorem s_setI (i : Nat) {x : Str} {p : Pos} (hN : X.N[i]? = some x) (hv : Vis X.env.scope x) (hj : QE X T W b f1) (he : QE X T W e f)
    (hd : (x == ("__debug__" : Str)) = false := by decide) (hcd : (x == ("__classdict__" : Str)) = false := by decide)
    (hps : ∀ {tj te : TE}, PE X b tj → PE X e te → PS X (.Assign [.Subscript (.Name x p) b pos'] e pos) (tAsg te (gSub (tVar i) tj rSetL))) :
    QS X T W (.Assign [.Subscript (.Name x p) b pos'] e pos) (sSetI i f1 f) := by
  obtain ⟨te, pe, hf⟩ := he.ex
  obtain ⟨tj, pj, hj⟩ := hj.ex
  refine ⟨⟨_, hps pj pe, fun F ρ σ H Rf E hq => ?_⟩⟩
  refine hf F ρ σ H Rf _ (Pst.out Rf hq fun a v H1 _ e1 r1 h1 => ?_)
  have Rf1 := Rf.mono e1
  split at h1
  · rename_i l g hρ
    obtain ⟨p, q1, q2, q3, q4, q5, q6⟩ := Rf1.sl i _ hρ
    obtain ⟨_, vs, z, h3, h4⟩ := q3
    cases z
    refine ⟨.ref p, q1, ?_⟩
    refine hj F ρ σ H1 Rf1 _ (Pst.out Rf1 (PO.pre (vis_mono e1) h1) fun y w H2 _ e2 r2 h2 => ?_)
    have Rf2 := Rf1.mono e2
    split at h2
    · rename_i k hk
      split at h2
      · rename_i j hj
        split at h2
        · rename_i hb
          have h4' := h4.mono (hp_mono (F := F) (ρ := ρ) (σ := σ) (f := g) e2)
          have rv := repV_pl (K := X.K) (T := T) (Hs := H) ((RepV.mono (Ex.refl _) e2 r1).pl (nb_of hb))
          have rv : Rep X.K T (hpB F ρ σ H2 (a.f || scalar a.d)) v a.d := rv
          have put := fm_put (f' := g && (a.f || scalar a.d)) (d' := .lst (l.set j a.d)) (o := .lst (vs.set j v)) Rf2 hρ q1 rfl (fun z => nomatch z) fun G hG => ⟨p, _, rfl, upd_same, ?_⟩
          · exact ⟨p, vs, k, j, rfl, int_of Rf2 r2 (int?_eq hk), e2 _ _ h3, by rw [h4.length]; exact hj, h2 _ _ put.1 ((vis_mono e2).trans put.2)⟩
          · exact Reps.set (rv.mono ((hp_le fun z => (Bool.and_eq_true_iff.mp z).2).trans hG)) j (h4'.mono ((hp_le fun z => (Bool.and_eq_true_iff.mp z).1).trans hG))
        · exact h2.elim
      · exact h2.elim
    · exact h2.elim
  · exact h1.elim
/-- d[k] = e, d in the slot i -/
def sSetK (i : Nat) (fj f : En → R Vl) : En → Out := fun ρ => (f ρ).toOut ρ fun a => match ρ[i]? with
  | some (.ow (.dct l) g) => (fj ρ).toOut ρ fun y => match key? y with
    | some k => if nb? a = true ∧ l.length < 1000000 then .next (ρ.set i (.ow (.dct (putD l k a.d)) (g && (a.f || scalar a.d)))) else .bad
    | none => .bad
  | _ => .bad
theorem s_setK (i : Nat) {x : Str} {p : Pos} (hu : X.A.units + 1 < cLine) (hN : X.N[i]? = some x) (hv : Vis X.env.scope x) (hj : QE X T W b f1) (he : QE X T W e f)
    (hd : (x == ("__debug__" : Str)) = false := by decide) (hcd : (x == ("__classdict__" : Str)) = false := by decide)
    (hs : swapsWith e (some (.Subscript (.Name x p) b pos')) pos.line X.env = pure false := by rfl) :
    QS X T W (.Assign [.Subscript (.Name x p) b pos'] e pos) (sSetK i f1 f) := by
  obtain ⟨te, pe, hf⟩ := he.ex
  obtain ⟨tj, pj, hj⟩ := hj.ex
  refine ⟨⟨_, ps_dput hu (pe_var hN hv hd hcd) pj pe hs, fun F ρ σ H Rf E hq => ?_⟩⟩
  refine hf F ρ σ H Rf _ (Pst.out Rf hq fun a v H1 _ e1 r1 h1 => ?_)
  have Rf1 := Rf.mono e1
  split at h1
  · rename_i l g hρ
    obtain ⟨p, q1, q2, q3, q4, q5, q6⟩ := Rf1.sl i _ hρ
    obtain ⟨_, vs, z, h3, h4⟩ := q3
    cases z
    refine ⟨.ref p, q1, ?_⟩
    refine hj F ρ σ H1 Rf1 _ (Pst.out Rf1 (PO.pre (vis_mono e1) h1) fun y w H2 _ e2 r2 h2 => ?_)
    have Rf2 := Rf1.mono e2
    split at h2
    · rename_i k hk
      split at h2
      · rename_i hb
        have h4' := h4.mono (hp_mono (F := F) (ρ := ρ) (σ := σ) (f := g) e2)
        have rv := repV_pl (K := X.K) (T := T) (Hs := H) ((RepV.mono (Ex.refl _) e2 r1).pl (nb_of hb.1))
        have rv : Rep X.K T (hpB F ρ σ H2 (a.f || scalar a.d)) v a.d := rv
        have put := fm_put (f' := g && (a.f || scalar a.d)) (d' := .dct (putD l k a.d)) (o := .dK (putK vs k v)) Rf2 hρ q1 rfl (fun z => nomatch z) fun G hG => ⟨p, _, rfl, upd_same, ?_⟩
        · obtain rfl := key?_v Rf2 r2 hk
          exact ⟨p, _, rfl, DPut.k (k := k) (e2 _ _ h3) (by rw [h4.length]; exact lt_line hb.2), h2 _ _ put.1 ((vis_mono e2).trans put.2)⟩
        · exact RepK.put (rv.mono ((hp_le fun z => (Bool.and_eq_true_iff.mp z).2).trans hG)) (h4'.mono ((hp_le fun z => (Bool.and_eq_true_iff.mp z).1).trans hG))
      · exact h2.elim
    · exact h2.elim
  · exact h1.elim
/-- self.f = e: the next field of the class c, self in the slot i -/
def sFld (i c k : Nat) (f : En → R Vl) : En → Out := fun ρ => (f ρ).toOut ρ fun a => match ρ[i]? with
  | some (.ow (.obj c' l) g) => if c' = c ∧ l.length = k ∧ nb? a = true then .next (ρ.set i (.ow (.obj c (l ++ [a.d])) (g && (a.f || scalar a.d)))) else .bad
  | _ => .bad
theorem putF_zip : ∀ {N : List Str} {vs : List V} {f : Str} {v : V}, N.Nodup → N[vs.length]? = some f → putF f v (N.zip vs) = N.zip (vs ++ [v])
  | [], vs, f, v, _, h => by simp at h
  | n :: N, [], f, v, _, h => by
    simp at h
    subst h
    rw [List.zip_nil_right]
    show [(n, v)] = [(n, v)] ++ N.zip []
    simp
  | n :: N, w :: vs, f, v, nd, h => by
    obtain ⟨n1, n2⟩ := List.nodup_cons.mp nd
    have h' : N[vs.length]? = some f := by simpa using h
    have ne : ¬ n = f := fun z => n1 (z ▸ List.mem_of_getElem? h')
    have ih := putF_zip (v := v) n2 h'
    rw [List.zip_cons_cons, List.cons_append, List.zip_cons_cons]
    show (if n = f then _ else _) = _
    rw [if_neg ne, ih]
theorem s_fld (i c k : Nat) {x m : Str} {p : Pos} (ok : ClOk X.K T c) (hk : (T.cf c)[k]? = some m) (hN : X.N[i]? = some x) (hv : Vis X.env.scope x) (he : QE X T W e f)
    (hd : (x == ("__debug__" : Str)) = false := by decide) (hcd : (x == ("__classdict__" : Str)) = false := by decide)
    (hs : swapsWith e (some (.Attribute (.Name x p) m pos')) pos.line X.env = pure false := by rfl) : QS X T W (.Assign [.Attribute (.Name x p) m pos'] e pos) (sFld i c k f) := by
  obtain ⟨te, pe, hf⟩ := he.ex
  refine ⟨⟨_, ps_fld (pe_var hN hv hd hcd) pe hs, fun F ρ σ H Rf E hq => ?_⟩⟩
  refine hf F ρ σ H Rf _ (Pst.out Rf hq fun a v H1 _ e1 r1 h1 => ?_)
  have Rf1 := Rf.mono e1
  split at h1
  · rename_i c' l g hρ
    obtain ⟨p, q1, q2, q3, q4, q5, q6⟩ := Rf1.sl i _ hρ
    obtain ⟨_, dx, vs, z, h3, h4, h5⟩ := q3
    cases z
    refine ⟨.ref p, q1, ?_⟩
    have hc : c' = c ∧ l.length = k ∧ nb? a = true := Decidable.byContradiction fun z => by rw [if_neg z] at h1; exact h1
    rw [if_pos hc] at h1
    obtain ⟨rfl, rfl, hb⟩ := hc
    have hl := h4.length
    have rv := repV_pl (K := X.K) (T := T) (Hs := H) (r1.pl (nb_of hb))
    have rv : Rep X.K T (hpB F ρ σ H1 (a.f || scalar a.d)) v a.d := rv
    have hk' : (T.cf c')[vs.length]? = some m := by rw [hl]; exact hk
    obtain ⟨hlt, _⟩ := List.getElem?_eq_some_iff.mp hk'
    have ez := putF_zip (v := v) ok.nd hk'
    have put := fm_put (f' := g && (a.f || scalar a.d)) (d' := .obj c' (l ++ [a.d])) (o := .ins (T.ca c') dx ((T.cf c').zip (vs ++ [v]))) Rf1 hρ q1 rfl (fun _ => rfl) fun G hG => ⟨p, dx, vs ++ [v], rfl, upd_same, ?_, by rw [List.length_append]; exact hlt⟩
    · refine ⟨p, T.ca c', dx, _, rfl, h3, ok.cl, ok.na m (List.mem_of_getElem? hk), ?_, ?_⟩
      · rw [List.length_zip]
        have := ok.few
        omega
      · rw [ez]
        exact h1 _ _ put.1 ((vis_mono e1).trans put.2)
    · exact (h4.mono ((hp_le fun z => (Bool.and_eq_true_iff.mp z).1).trans hG)).append (.cons _ _ _ _ (rv.mono ((hp_le fun z => (Bool.and_eq_true_iff.mp z).2).trans hG)) .nil)
  · exact h1.elim
end
end Ev
set_option maxHeartbeats 1000000
/-! Ev8: promises, calls, instances made, methods, raise, try, isinstance. -/
namespace Ev
open PySem L2

/-! ### promises -/
abbrev Sm := List D → R (D × Bool)
def onlyNew (H V : Hp) : Hp := fun a => match H a with
  | none => V a
  | some _ => none
/-- what a call leaves of the heap and of what is seen -/
structure CP (V H V' H' : Hp) : Prop where
  h : Ex H H'
  v : Ex V V'
  w : Ex V' H'
  n : ∀ a o, V' a = some o → V a = some o ∨ H a = none
def spD (K : PySem.W.Frag) (T : Tb) (n : Nat) (Φ : Sm) : Sp := fun vs H Q E => vs.length = n ∧ ∃ (V : Hp) (ds : List D), Ex V H ∧ Reps K T V vs ds ∧ (match Φ ds with
  | .ok r => ∀ v H' V', CP V H V' H' → Rep K T (if r.2 then onlyNew H V' else V') v r.1 → Q v H'
  | .exc c l => ∀ dd H' V', CP V H V' H' → ExF K T V' H' dd c l → E (.ref (T.ca c)) dd H'
  | .bad => False)
/-- __init__ of the class c: the fields' values -/
abbrev Sf := List D → R (List D × Bool)
def spI (K : PySem.W.Frag) (T : Tb) (c n : Nat) (Ψ : Sf) : Sp := fun vs H Q E => vs.length = n + 1 ∧ ∃ (x dx : Addr) (ws : List V) (Hm V : Hp) (ds : List D), vs = .ref x :: ws ∧ H x = some (.ins (T.ca c) dx []) ∧ Ex Hm H ∧ Hm x = none ∧ Ex V Hm ∧ Reps K T V ws ds ∧ (match Ψ ds with
  | .ok r => ∀ us dy H' V', CP V Hm V' H' → V' x = none → H' x = some (.ins (T.ca c) dy ((T.cf c).zip us)) → Reps K T (if r.2 then onlyNew Hm V' else V') us r.1 → us.length ≤ (T.cf c).length → Q .non H'
  | .exc k l => ∀ dd H' V', CP V Hm V' H' → ExF K T V' H' dd k l → E (.ref (T.ca k)) dd H'
  | .bad => False)
/-- the values at a def's start -/
def enStart (n : Nat) (ds : List D) : En := ds.map (fun d => .sh d (scalar d)) ++ List.replicate (n - ds.length) .un
def bodyR (g : En → Out) (n : Nat) : Sm := fun ds => match g (enStart n ds) with
  | .ret a => .ok (a.d, a.f)
  | .next _ => .ok (.non, true)
  | .exc _ c l => .exc c l
  | _ => .bad
def initR (c : Nat) (g : En → Out) (n : Nat) : Sf := fun ds => match g (SV.ow (.obj c []) true :: enStart (n - 1) ds) with
  | .next ρ => (match (ρ[0]? : Option SV) with
    | some (.ow (.obj c' l) f) => if c' = c then .ok (l, f) else .bad
    | _ => .bad)
  | .exc _ k l => .exc k l
  | _ => .bad
section
variable {K : PySem.W.Frag} {T : Tb} {F : Fp} {ρ : En} {σ : L2.St} {H H' : Hp}
theorem fm_start {me : Addr} (n : Nat) {vs : List V} {ds : List D} {G : Hp} (hV : Ex G H) (r : Reps K T G vs ds) (hn : vs.length ≤ n) :
    Fm K T ⟨H, G, [], me⟩ (enStart n ds) (vs.map some ++ List.replicate (n - vs.length) none) H := by
  have hl := r.length
  have nohid : ∀ a, ¬ Hid ⟨H, G, [], me⟩ (enStart n ds) (vs.map some ++ List.replicate (n - vs.length) none) a := fun a h => by
    rcases h with ⟨i, d, f, h1, h2⟩ | h
    · unfold enStart at h1
      by_cases hi : i < ds.length
      · rw [List.getElem?_append_left (by simpa using hi), List.getElem?_map, List.getElem?_eq_getElem hi] at h1
        cases h1
      · rw [List.getElem?_append_right (by simp; omega)] at h1
        rw [List.getElem?_replicate] at h1
        split at h1 <;> cases h1
    · cases h
  refine ⟨Ex.refl _, hV, by unfold enStart; simp [hl], fun i x hx => ?_, fun i j p d d' f f' h1 h2 h3 h4 => ?_, fun a ha => nomatch ha⟩
  · unfold enStart at hx
    by_cases hi : i < ds.length
    · rw [List.getElem?_append_left (by simpa using hi), List.getElem?_map] at hx
      obtain ⟨d, hd, rfl⟩ := Option.map_eq_some_iff.mp hx
      obtain ⟨v, h1, h2⟩ := r.get hd
      refine ⟨v, ?_, ?_⟩
      · rw [List.getElem?_append_left (by simp; omega), List.getElem?_map, h1]
        rfl
      · cases hs : scalar d with
        | true => exact Rep.scal hs h2
        | false =>
          refine h2.mono fun a o e => ?_
          have h0 : H a = some o := hV _ _ e
          exact (visB_old (F := ⟨H, G, [], me⟩) (nohid a) h0).trans e
    · rw [List.getElem?_append_right (by simp; omega), List.getElem?_replicate] at hx
      split at hx
      · cases hx
        exact True.intro
      · cases hx
  · exact absurd (.inl ⟨i, d, f, h1, h3⟩) (nohid p)
theorem visU_at {a : Addr} (h : F.H0 a = none) : visU F H a = H a := by
  unfold visU
  rw [h]
theorem visU_old {a : Addr} {o : HO} (h : F.H0 a = some o) : visU F H a = F.V0 a := by
  unfold visU
  rw [h]
theorem cp_U (h1 : Ex F.H0 H) (h2 : Ex F.V0 F.H0) : CP F.V0 F.H0 (visU F H) H := by
  refine ⟨h1, fun a o e => (visU_old (h2 _ _ e)).trans e, fun a o e => ?_, fun a o e => ?_⟩
  · cases h : F.H0 a with
    | none => rw [visU_at h] at e; exact e
    | some x => rw [visU_old h] at e; exact h1 _ _ (h2 _ _ e)
  · cases h : F.H0 a with
    | none => exact .inr rfl
    | some x => rw [visU_old h] at e; exact .inl e
theorem newU_only : Ex (newU F H) (onlyNew F.H0 (visU F H)) := fun a o e => by
  unfold newU at e
  unfold onlyNew
  cases h : F.H0 a with
  | none =>
    rw [h] at e
    exact (visU_at h).trans e
  | some x => rw [h] at e; cases e
end

/-- a def by its body -/
theorem fnD {P : Program} {w : World} {K : PySem.W.Frag} {mg : Str → Option Value} {base : Heap} {x qual : Str} {params : Arguments} {body : List Stmt} {scope : Scope} {dvs : List V} {kws : List (Str × V)} {f : Addr} {fd : FuncData} {N ps : List Str} {k : Nat} {T : Tb} {g : En → Out}
    (Fd : FunD K x qual params body scope dvs kws f fd) (S : FnScope N ps scope) (hN : ps.length ≤ N.length)
    (hb : ∀ (cdv : Value) (A : Around) (outer : List Env) (s : Shared) (H : Hp) (E : XK), Room k (A.deeper (PyProof.Rows.envOfC qual scope s.heap.objs.size f cdv)) →
      QSs (cxOf (L2.CX P w) P w K mg base N qual scope f cdv A outer s H E) T (fun cls d _ H => E cls d H) body g) :
    FnOk P w K mg base (L2.CX P w) (k + 1) f fd ps (spD K T ps.length (bodyR g N.length)) := by
  refine Fd.ok S (fun vs H Q E h => h.1) (fun cdv A outer s H vs Q E hr h => ?_)
  obtain ⟨hl, V, ds, hV, r, h⟩ := h
  obtain ⟨t, pt, ht⟩ := (hb cdv A outer s H E hr).ex
  refine ⟨t, pt, ?_⟩
  have Rf : Fm K T ⟨H, V, [], 0⟩ (enStart N.length ds) (L2.start N vs) H := fm_start N.length hV r (by rw [hl]; exact hN)
  refine ht ⟨H, V, [], 0⟩ _ _ H Rf _ ?_
  unfold bodyR at h
  cases ho : g (enStart N.length ds) with
  | next ρ =>
    rw [ho] at h
    exact fun σ' H' R' _ => h .non H' (visU ⟨H, V, [], 0⟩ H') (cp_U R'.ex hV) .non
  | ret a =>
    rw [ho] at h
    refine fun v H' e rr => h v H' (visU ⟨H, V, [], 0⟩ H') (cp_U e hV) ?_
    cases hf : a.f with
    | true => rw [hf] at rr; exact rr.mono newU_only
    | false => rw [hf] at rr; exact rr
  | brk ρ => rw [ho] at h; exact h.elim
  | cont ρ => rw [ho] at h; exact h.elim
  | exc ρ c l =>
    rw [ho] at h
    exact fun dd σ' H' R' _ q => h dd H' (visU ⟨H, V, [], 0⟩ H') (cp_U R'.ex hV) (q.mono vis_U (Ex.refl _))
  | bad => rw [ho] at h; exact h.elim
/-- __init__ by its body -/
theorem fnI {P : Program} {w : World} {K : PySem.W.Frag} {mg : Str → Option Value} {base : Heap} {x qual : Str} {params : Arguments} {body : List Stmt} {scope : Scope} {dvs : List V} {kws : List (Str × V)} {f : Addr} {fd : FuncData} {N ps : List Str} {k m : Nat} {T : Tb} {g : En → Out} (c : Nat)
    (Fd : FunD K x qual params body scope dvs kws f fd) (S : FnScope N ps scope) (hN : ps.length ≤ N.length) (hm : ps.length = m + 1)
    (hb : ∀ (cdv : Value) (A : Around) (outer : List Env) (s : Shared) (H : Hp) (E : XK), Room k (A.deeper (PyProof.Rows.envOfC qual scope s.heap.objs.size f cdv)) →
      QSs (cxOf (L2.CX P w) P w K mg base N qual scope f cdv A outer s H E) T (fun cls d _ H => E cls d H) body g) :
    FnOk P w K mg base (L2.CX P w) (k + 1) f fd ps (spI K T c m (initR c g N.length)) := by
  refine Fd.ok S (fun vs H Q E h => h.1.trans hm.symm) (fun cdv A outer s H vs Q E hr h => ?_)
  obtain ⟨hl, x, dx, ws, Hm, V, ds, rfl, hx, hHm, hmx, hV, r, h⟩ := h
  obtain ⟨t, pt, ht⟩ := (hb cdv A outer s H E hr).ex
  refine ⟨t, pt, ?_⟩
  have hws : ws.length = m := by simpa using hl
  have hN1 : ws.length ≤ N.length - 1 := by omega
  have eqs : L2.start N (.ref x :: ws) = some (.ref x) :: (ws.map some ++ List.replicate (N.length - 1 - ws.length) none) := by
    unfold L2.start
    rw [List.map_cons, List.cons_append, List.length_cons, show N.length - (ws.length + 1) = N.length - 1 - ws.length by omega]
  have R0 : Fm K T ⟨Hm, V, [], x⟩ (enStart (N.length - 1) ds) (ws.map some ++ List.replicate (N.length - 1 - ws.length) none) Hm := fm_start (N.length - 1) hV r hN1
  have nh : ∀ a, ¬ Hid ⟨Hm, V, [], x⟩ (enStart (N.length - 1) ds) (ws.map some ++ List.replicate (N.length - 1 - ws.length) none) a := fun a h => by
    rcases h with ⟨i, d, f, h1, h2⟩ | h
    · unfold enStart at h1
      by_cases hi : i < ds.length
      · rw [List.getElem?_append_left (by simpa using hi), List.getElem?_map, List.getElem?_eq_getElem hi] at h1
        cases h1
      · rw [List.getElem?_append_right (by simp; omega)] at h1
        rw [List.getElem?_replicate] at h1
        split at h1 <;> cases h1
    · cases h
  have Rf : Fm K T ⟨Hm, V, [], x⟩ (.ow (.obj c []) true :: enStart (N.length - 1) ds) (L2.start N (.ref x :: ws)) H := by
    rw [eqs]
    have hid : ∀ a, Hid ⟨Hm, V, [], x⟩ (.ow (.obj c []) true :: enStart (N.length - 1) ds) (some (.ref x) :: (ws.map some ++ List.replicate (N.length - 1 - ws.length) none)) a → a = x := fun a h => by
      rcases h with ⟨i, d, f, h1, h2⟩ | h
      · cases i with
        | zero => simp at h2; exact h2.symm
        | succ i =>
          have h1' : (enStart (N.length - 1) ds)[i]? = some (.ow d f) := by simpa using h1
          have h2' : (ws.map some ++ List.replicate (N.length - 1 - ws.length) none)[i]? = some (some (.ref a)) := by simpa using h2
          exact absurd (.inl ⟨i, d, f, h1', h2'⟩) (nh a)
      · cases h
    have up : ∀ {b : Bool}, Ex (hpB ⟨Hm, V, [], x⟩ (enStart (N.length - 1) ds) (ws.map some ++ List.replicate (N.length - 1 - ws.length) none) Hm b) (hpB ⟨Hm, V, [], x⟩ (.ow (.obj c []) true :: enStart (N.length - 1) ds) (some (.ref x) :: (ws.map some ++ List.replicate (N.length - 1 - ws.length) none)) H b) := fun {b} a o e => by
      have q : Hm a = some o := R0.hH _ _ e
      have ne : a ≠ x := fun z => by rw [z, hmx] at q; cases q
      have nh2 : ¬ Hid ⟨Hm, V, [], x⟩ (.ow (.obj c []) true :: enStart (N.length - 1) ds) (some (.ref x) :: (ws.map some ++ List.replicate (N.length - 1 - ws.length) none)) a := fun z => ne (hid a z)
      cases b with
      | true =>
        have e : newB _ _ _ _ a = some o := e
        rw [newB_old (F := ⟨Hm, V, [], x⟩) q] at e
        cases e
      | false =>
        have e : visB _ _ _ _ a = some o := e
        rw [visB_old (F := ⟨Hm, V, [], x⟩) (nh a) q] at e
        exact (visB_old (F := ⟨Hm, V, [], x⟩) nh2 q).trans e
    refine ⟨hHm, hV, by simp [R0.len], fun i y hy => ?_, fun i j p d d' f f' h1 h2 h3 h4 => ?_, fun a ha => nomatch ha⟩
    · cases i with
      | zero =>
        simp at hy
        subst hy
        exact ⟨x, rfl, hmx, ⟨x, dx, [], rfl, by rw [List.zip_nil_right]; exact hx, .nil, Nat.zero_le _⟩, (fun z => nomatch z), rfl, fun _ => rfl⟩
      | succ i =>
        have hy' : (enStart (N.length - 1) ds)[i]? = some y := by simpa using hy
        have q := R0.sl i y hy'
        cases y with
        | un => exact True.intro
        | ex c l =>
          exfalso
          unfold enStart at hy'
          by_cases hi : i < ds.length
          · rw [List.getElem?_append_left (by simpa using hi), List.getElem?_map, List.getElem?_eq_getElem hi] at hy'
            cases hy'
          · rw [List.getElem?_append_right (by simp; omega)] at hy'
            rw [List.getElem?_replicate] at hy'
            split at hy' <;> cases hy'
        | sh d f =>
          obtain ⟨v, q1, q2⟩ := q
          exact ⟨v, by simpa using q1, q2.mono up⟩
        | ow d f =>
          obtain ⟨p, q1, _⟩ := q
          exact absurd (.inl ⟨i, d, f, hy', q1⟩) (nh p)
    · have z : ∀ (i : Nat) (d : D) (f : Bool), ((.ow (.obj c []) true :: enStart (N.length - 1) ds) : En)[i]? = some (.ow d f) → i = 0 := fun i d f h => by
        cases i with
        | zero => rfl
        | succ i =>
          exfalso
          have hy' : (enStart (N.length - 1) ds)[i]? = some (.ow d f) := by simpa using h
          unfold enStart at hy'
          by_cases hi : i < ds.length
          · rw [List.getElem?_append_left (by simpa using hi), List.getElem?_map, List.getElem?_eq_getElem hi] at hy'
            cases hy'
          · rw [List.getElem?_append_right (by simp; omega)] at hy'
            rw [List.getElem?_replicate] at hy'
            split at hy' <;> cases hy'
      rw [z i d f h1, z j d' f' h2]
  refine ht ⟨Hm, V, [], x⟩ _ _ H Rf _ ?_
  unfold initR at h
  cases ho : g (.ow (.obj c []) true :: enStart (N.length - 1) ds) with
  | next ρ =>
    rw [ho] at h
    refine fun σ' H' R' xx => ?_
    have h : (match (match (ρ[0]? : Option SV) with
      | some (.ow (.obj c' l) f) => if c' = c then (.ok (l, f) : R (List Ev.D × Bool)) else .bad
      | _ => .bad) with
      | .ok r => ∀ us dy H' V', CP V Hm V' H' → V' x = none → H' x = some (.ins (T.ca c) dy ((T.cf c).zip us)) → Reps K T (if r.2 then onlyNew Hm V' else V') us r.1 → us.length ≤ (T.cf c).length → Q .non H'
      | .exc k l => ∀ dd H' V', CP V Hm V' H' → ExF K T V' H' dd k l → E (.ref (T.ca k)) dd H'
      | .bad => False) := h
    split at h
    · rename_i r hr
      split at hr
      · rename_i c' l f hρ
        split at hr
        · rename_i hc
          subst hc
          injection hr with hr
          subst hr
          obtain ⟨p, q1, q2, q3, q4, q5, q6⟩ := R'.sl 0 _ hρ
          have hp : p = x := q6 rfl
          subst hp
          obtain ⟨_, dy, us, z, z1, z2, z3⟩ := q3
          cases z
          have hidp : Hid ⟨Hm, V, [], p⟩ ρ σ' p := .inl ⟨0, _, _, hρ, q1⟩
          have up : ∀ {b : Bool}, Ex (hpB ⟨Hm, V, [], p⟩ ρ σ' H' b) (if b then onlyNew Hm (fun a => if a = p then none else visU ⟨Hm, V, [], p⟩ H' a) else fun a => if a = p then none else visU ⟨Hm, V, [], p⟩ H' a) := fun {b} a o e => by
            have ne : a ≠ p := fun z => by
              subst z
              cases b with
              | true => rw [show hpB ⟨Hm, V, [], a⟩ ρ σ' H' true = newB ⟨Hm, V, [], a⟩ ρ σ' H' from rfl, newB_hid hidp] at e; cases e
              | false => rw [show hpB ⟨Hm, V, [], a⟩ ρ σ' H' false = visB ⟨Hm, V, [], a⟩ ρ σ' H' from rfl, visB_hid hidp] at e; cases e
            cases b with
            | true =>
              have e2 := newU_only a o (new_U a o e)
              rw [if_pos rfl]
              unfold onlyNew at e2 ⊢
              cases hm : Hm a with
              | none =>
                simp only [hm] at e2 ⊢
                rw [if_neg ne]
                exact e2
              | some u => simp only [hm] at e2; cases e2
            | false =>
              rw [if_neg Bool.false_ne_true]
              show (if a = p then none else visU ⟨Hm, V, [], p⟩ H' a) = some o
              rw [if_neg ne]
              exact vis_U a o e
          have cp := cp_U (F := ⟨Hm, V, [], p⟩) R'.ex hV
          refine h us dy H' (fun a => if a = p then none else visU ⟨Hm, V, [], p⟩ H' a) ⟨cp.h, fun a o e => ?_, fun a o e => ?_, fun a o e => ?_⟩ (if_pos rfl) z1 (z2.mono up) z3
          · have ne : a ≠ p := fun z => by rw [z] at e; have := hV _ _ e; rw [hmx] at this; cases this
            rw [if_neg ne]
            exact cp.v _ _ e
          · by_cases ne : a = p
            · rw [if_pos ne] at e; cases e
            · rw [if_neg ne] at e; exact cp.w _ _ e
          · by_cases ne : a = p
            · rw [if_pos ne] at e; cases e
            · rw [if_neg ne] at e; exact cp.n _ _ e
        · cases hr
      · cases hr
    · rename_i hr
      split at hr
      · split at hr <;> cases hr
      · cases hr
    · exact h.elim
  | ret a => rw [ho] at h; exact h.elim
  | brk ρ => rw [ho] at h; exact h.elim
  | cont ρ => rw [ho] at h; exact h.elim
  | exc ρ k l =>
    rw [ho] at h
    exact fun dd σ' H' R' _ q => h dd H' (visU ⟨Hm, V, [], x⟩ H') (cp_U R'.ex hV) (q.mono vis_U (Ex.refl _))
  | bad => rw [ho] at h; exact h.elim
end Ev
set_option maxHeartbeats 1000000
/-! Ev9: calls, instances made, methods, raise, try. -/
namespace Ev
open PySem L2

/-! ### a call by its promise -/
/-- what comes back of a call: with a borrowed argument the answer must be new or a scalar -/
def callR (Φ : Sm) (as : List Vl) (dds : List D) : R Vl := match plain as with
  | some p => (match Φ (p.1 ++ dds) with
    | .ok r => .ok ⟨r.1, .pl, r.2 || scalar r.1⟩
    | .exc c l => .exc c l
    | .bad => .bad)
  | none => (match Φ (as.map (·.d) ++ dds) with
    | .ok r => if (r.2 || scalar r.1) = true then .ok ⟨r.1, .pl, true⟩ else .bad
    | .exc c l => if l.all scalar = true then .exc c l else .bad
    | .bad => .bad)
section
variable {K : PySem.W.Frag} {T : Tb} {F : Fp} {ρ : En} {σ : L2.St} {Hs H H1 G G1 : Hp}
theorem new_visU : Ex (newU F H) (visU F H) := fun a o e => by
  unfold newU at e
  cases h : F.H0 a with
  | none => rw [h] at e; exact (visU_at h).trans e
  | some x => rw [h] at e; cases e
theorem hpU_vis {f : Bool} : Ex (hpU F H f) (visU F H) := by
  cases f with
  | true => exact new_visU
  | false => exact Ex.refl _
theorem reps_U : ∀ {as : List Vl} {vs : List V}, RepVs K T F ρ σ Hs H vs as → Reps K T (visU F H) vs (as.map (·.d))
  | [], _, .nil => .nil
  | _ :: _, _, .cons v a vs as h r => .cons _ _ _ _ ((ret_rep h).mono hpU_vis) (reps_U r)
theorem visU_H (h1 : Ex F.H0 H) (h2 : Ex F.V0 F.H0) : Ex (visU F H) H := (cp_U h1 h2).w
theorem Reps.scal : ∀ {ds : List D} {vs : List V}, Reps K T G vs ds → ds.all scalar = true → Reps K T G1 vs ds
  | [], _, .nil, _ => .nil
  | d :: ds, _, .cons v _ vs _ q r, h => by
    rw [List.all_cons, Bool.and_eq_true_iff] at h
    exact .cons _ _ _ _ (Rep.scal h.1 q) (Reps.scal r h.2)
theorem ExF.scal {dd : Option Addr} {c : Nat} {l : List D} (h : l.all scalar = true) (q : ExF K T G H dd c l) : ExF K T G1 H dd c l := by
  rcases q with q | ⟨d, vs, h0, h1, h2, h3, h4⟩
  · exact .inl q
  · exact .inr ⟨d, vs, h0, h1, h2, Reps.scal h3 h, h4⟩
/-- what is new behind a call is new for the frame -/
theorem only_new' {Hm : Hp} (Rf : Fm K T F ρ σ H) (x : Ex H Hm) (cp : CP G Hm G1 H1) : Ex (onlyNew Hm G1) (newB F ρ σ H1) := fun a o e => by
  unfold onlyNew at e
  cases h : Hm a with
  | some x => rw [h] at e; cases e
  | none =>
    rw [h] at e
    obtain ⟨nh, h0⟩ := Rf.nohid (x.fresh h)
    exact (newB_new nh h0).trans (cp.w _ _ e)
theorem vis_after' {Hm : Hp} (Rf : Fm K T F ρ σ H) (x : Ex H Hm) (cp : CP (visB F ρ σ H) Hm G1 H1) : Ex G1 (visB F ρ σ H1) := fun a o e => by
  rcases cp.n a o e with h | h
  · have z := cp.v _ _ h
    rw [e] at z
    cases z
    exact vis_mono (x.trans cp.h) _ _ h
  · obtain ⟨nh, h0⟩ := Rf.nohid (x.fresh h)
    exact (visB_new nh h0).trans (cp.w _ _ e)
theorem only_new (Rf : Fm K T F ρ σ H) (cp : CP G H G1 H1) : Ex (onlyNew H G1) (newB F ρ σ H1) := only_new' Rf (Ex.refl _) cp
theorem vis_after (Rf : Fm K T F ρ σ H) (cp : CP (visB F ρ σ H) H G1 H1) : Ex G1 (visB F ρ σ H1) := vis_after' Rf (Ex.refl _) cp
/-- a promise kept: from the arguments' readings -/
theorem call_sp {W : WX} {Φ : Sm} {as : List Vl} {vs dvs : List V} {dds : List D} {n : Nat} {Q : VK} (Rf : Fm K T F ρ σ H) (r : RepVs K T F ρ σ Hs H vs as) (hd : ∀ G, Reps K T G dvs dds) (hn : vs.length + dvs.length = n)
    (h : Pst ⟨K, T, F, ρ, σ, W⟩ (relE ⟨K, T, F, ρ, σ, W⟩) (callR Φ as dds) H Q) : spD K T n Φ (vs ++ dvs) H Q (fun cls d H => W cls d σ H) := by
  refine ⟨by rw [List.length_append]; exact hn, ?_⟩
  unfold callR at h
  cases hp : plain as with
  | some p =>
    obtain ⟨ds, f⟩ := p
    rw [hp] at h
    refine ⟨visB F ρ σ H, ds ++ dds, Rf.vH, ((plain_reps r hp).mono hp_vis).append (hd _), ?_⟩
    have h : Pst ⟨K, T, F, ρ, σ, W⟩ (relE ⟨K, T, F, ρ, σ, W⟩) (match Φ (ds ++ dds) with
      | .ok r => .ok ⟨r.1, .pl, r.2 || scalar r.1⟩
      | .exc c l => .exc c l
      | .bad => .bad) H Q := h
    cases ho : Φ (ds ++ dds) with
    | ok a =>
      rw [ho] at h
      refine fun v H' V' cp rr => h v H' cp.h ?_
      show Rep K T (hpB F ρ σ H' (a.2 || scalar a.1)) v a.1
      cases hs : scalar a.1 with
      | true => exact Rep.scal hs rr
      | false =>
        rw [Bool.or_false]
        cases hf : a.2 with
        | true => rw [hf] at rr; exact rr.mono (only_new Rf cp)
        | false => rw [hf] at rr; exact rr.mono (vis_after Rf cp)
    | exc c l =>
      rw [ho] at h
      exact fun dd H' V' cp q => h dd H' cp.h (q.mono (vis_after Rf cp) (Ex.refl _))
    | bad => rw [ho] at h; exact h.elim
  | none =>
    rw [hp] at h
    refine ⟨visU F H, as.map (·.d) ++ dds, visU_H Rf.ex Rf.sub, (reps_U r).append (hd _), ?_⟩
    have h : Pst ⟨K, T, F, ρ, σ, W⟩ (relE ⟨K, T, F, ρ, σ, W⟩) (match Φ (as.map (·.d) ++ dds) with
      | .ok r => if (r.2 || scalar r.1) = true then .ok ⟨r.1, .pl, true⟩ else .bad
      | .exc c l => if l.all scalar = true then .exc c l else .bad
      | .bad => .bad) H Q := h
    cases ho : Φ (as.map (·.d) ++ dds) with
    | ok a =>
      rw [ho] at h
      have hc : (a.2 || scalar a.1) = true := Decidable.byContradiction fun z => by
        have h : Pst ⟨K, T, F, ρ, σ, W⟩ (relE ⟨K, T, F, ρ, σ, W⟩) (if (a.2 || scalar a.1) = true then .ok ⟨a.1, .pl, true⟩ else .bad) H Q := h
        rw [if_neg z] at h
        exact h
      have h : Pst ⟨K, T, F, ρ, σ, W⟩ (relE ⟨K, T, F, ρ, σ, W⟩) (if (a.2 || scalar a.1) = true then .ok ⟨a.1, .pl, true⟩ else .bad) H Q := h
      rw [if_pos hc] at h
      refine fun v H' V' cp rr => h v H' cp.h ?_
      show Rep K T (newB F ρ σ H') v a.1
      rcases Bool.or_eq_true_iff.mp hc with hf | hs
      · rw [hf] at rr
        exact rr.mono (only_new Rf cp)
      · exact Rep.scal hs rr
    | exc c l =>
      rw [ho] at h
      have hc : l.all scalar = true := Decidable.byContradiction fun z => by
        have h : Pst ⟨K, T, F, ρ, σ, W⟩ (relE ⟨K, T, F, ρ, σ, W⟩) (if l.all scalar = true then .exc c l else .bad) H Q := h
        rw [if_neg z] at h
        exact h
      have h : Pst ⟨K, T, F, ρ, σ, W⟩ (relE ⟨K, T, F, ρ, σ, W⟩) (if l.all scalar = true then .exc c l else .bad) H Q := h
      rw [if_pos hc] at h
      exact fun dd H' V' cp q => h dd H' cp.h (q.scal hc)
    | bad => rw [ho] at h; exact h.elim
theorem RepVs.length {K : PySem.W.Frag} : ∀ {vs : List V} {as : List Vl}, RepVs K T F ρ σ Hs H vs as → vs.length = as.length
  | _, _, .nil => rfl
  | _, _, .cons _ _ _ _ _ r => congrArg (· + 1) (RepVs.length r)
end

/-! ### the rules of a call, whatever leaves it -/
/-- arguments are read one by one, no star among them -/
abbrev ArgsPlain (X : Cx) (e : Expr) (es : List Expr) : Prop := starEach (e :: es) X.env = (false, eval e X.env) :: starEach es X.env
abbrev NoStar (X : Cx) (pos : Pos) (es : List Expr) : Prop := (backTo pos (starEach es X.env)).any (·.1) = false
abbrev NoStarKw (X : Cx) (pos : Pos) (es : List Expr) (kws : List Keyword) : Prop := ((backTo pos (starEach es X.env)).any (·.1) || (backToKw pos (keywordEach kws X.env)).any (·.1.isNone)) = false
abbrev NotDbg (x : Str) : Prop := (x == ("__debug__" : Str)) = false
/-- o.m(es) is read so: o, its method, the call -/
abbrev MethRead (X : Cx) (o : Expr) (m : Str) (apos pos : Pos) (es : List Expr) (pl : Sem Bool) : Prop := eval (.Call (.Attribute o m apos) es [] pos) X.env = (eval o X.env >>= fun ov => standAt apos.atName >>= fun _ => holding [ov] (getMethod ov m pl) >>= fun r => match r with
  | (g, own) => callWith pos g own (backTo pos (starEach es X.env)) (backToKw pos (keywordEach [] X.env)))
section
variable {X : Cx} {T : Tb} {W : WX} {k n : Nat} {f C : Addr} {fd : FuncData} {ps ks : List Str} {sp : Sp} {dvs : List V} {ds : List Value} {x m : Str} {p pos apos : Pos} {e o : Expr} {es : List Expr} {kws : List Keyword} {ta : TE} {t tk' : TA}
theorem run_fnKX {np : Nat} {g : List Value → List Value → List Value} {gV : List V → List V → List V} {pins : List (Addr × Obj)} {σ : L2.St} {H : Hp} {s : Shared} {Q : VK} {us ws : List Value} {vs zs : List V} (F : FnOk X.prog X.w X.K X.mg X.base (L2.CX X.prog X.w) k f fd ps sp) (hr : Room k X.A) (hb : KBn X.K fd ps np ks g gV) (tk : Takes X W)
    (I : Inv X pins σ H s) (r : Vals vs us) (rz : Vals zs ws) (l1 : vs.length = np) (l2 : zs.length = ks.length) (h : sp (gV vs zs) H Q (fun cls d H => W cls d σ H)) : wpAny (model X.prog X.w) X.A (call (.ref f) us (ks.zip ws)) (EP X pins σ Q) X.xe s := by
  have r2 := hb.rel r rz
  refine wpAny_call (codeAny_mono (F.run X.A X.stack s H ⟨us, ks.zip ws⟩ (g us ws) (gV vs zs) Q _ hr I.env0 (hb.to s us ws I.kIn (r.length.symm.trans l1) (rz.length.symm.trans l2)) r2 h) fun r s' hq => ?_)
  cases r with
  | error e => exact tk e s' (XE.of_call I (fun _ _ _ h => h) hq)
  | ok fl =>
    cases fl with
    | ret u => exact I.after hq
    | next => exact False.elim hq
    | brk => exact False.elim hq
    | cont => exact False.elim hq
theorem pe_callKX {np : Nat} {g : List Value → List Value → List Value} {gV : List V → List V → List V} (F : FnOk X.prog X.w X.K X.mg X.base (L2.CX X.prog X.w) k f fd ps sp) (hr : Room k X.A) (hg : Gl X x) (hm : X.mg x = some (.ref f)) (hk : PySem.W.keepIn X.K (.ref f) = true) (hb : KBn X.K fd ps np ks g gV) (tk : Takes X W)
    (ha : PA X (e :: es) t) (hkw : PK X kws tk') (hall : (backToKw pos (keywordEach kws X.env)).all (·.1.isSome) = true) (hks : (backToKw pos (keywordEach kws X.env)).filterMap (·.1) = ks)
    (hdb : NotDbg x) (he : ArgsPlain X e es)
    (hpl : NoStarKw X pos (e :: es) kws) :
    PE X (.Call (.Name x p) (e :: es) kws pos) (fun σ H Q => t σ H fun vs H1 => tk' σ H1 fun zs H2 => vs.length = np ∧ zs.length = ks.length ∧ sp (gV vs zs) H2 Q (fun cls d H => W cls d σ H)) := by
  refine ⟨fun pins s σ H Q I h => ?_⟩
  refine PySem.wpAny_Call_Name_kw (ld_glob I hg hm ?_ hdb)
  refine PySem.W.callWith_KW (h₀ := X.base) I.ok.mod.kin hk hall (thn (ha.run pos pins s σ H _ I h) fun us s1 ⟨vs, H1, I1, r, q⟩ => ?_) hpl he
  refine thn (hkw.run pos pins s1 σ H1 _ I1 q) fun ws s2 ⟨zs, H2, I2, rz, l1, l2, q2⟩ => ⟨I2.kIn, ?_⟩
  rw [hks]
  exact run_fnKX F hr hb tk I2 r rz l1 l2 q2
theorem pe_methX {pl : Sem Bool} (he : PE X o ta) (c : Cls X.K C) (hm : Meth X.K C m f) (F : FnOk X.prog X.w X.K X.mg X.base (L2.CX X.prog X.w) k f fd ps sp) (hr : Room k X.A) (hb : Binds X.K fd ps ds) (hd : Vals dvs ds) (tk : Takes X W) (ha : PA X (e :: es) t)
    (hst : ArgsPlain X e es) (hpl : NoStar X pos es)
    (ht : MethRead X o m apos pos (e :: es) pl) :
    PE X (.Call (.Attribute o m apos) (e :: es) [] pos) (fun σ H Q => ta σ H fun x H1 => ∃ a dx fs, x = .ref a ∧ H1 a = some (.ins C dx fs) ∧ fs.lookup m = none ∧ t σ H1 fun vs H2 => sp (x :: (vs ++ dvs)) H2 Q (fun cls d H => W cls d σ H)) := by
  refine ⟨fun pins s σ H Q I h => ?_⟩
  refine PySem.W.methodCall_KW (pl := pl) (thn (he.run pins s σ H _ I h) fun u s1 ⟨x, H1, I1, rx, a, dx, fs, ex, ea, l, q⟩ => ?_) ht
  subst ex
  obtain rfl : u = Value.ref a := rx
  refine getmeth_ok I1 ea c hm l ?_
  refine PySem.W.callWith_K (first := [.ref a]) (h₀ := X.base) I.ok.mod.kin hm.kp (thn (ha.run pos pins s1 σ H1 _ I1 q) fun us s2 ⟨vs, H2, I2, r, q2⟩ => ⟨I2.kIn, ?_⟩) hst hpl
  exact run_fnSD (us := .ref a :: us) (vs := .ref a :: vs) (E := WE W) F hr hb hd (passAt tk σ) I2 (.cons rfl r) q2
theorem pe_methX0 {pl : Sem Bool} (he : PE X o ta) (c : Cls X.K C) (hm : Meth X.K C m f) (F : FnOk X.prog X.w X.K X.mg X.base (L2.CX X.prog X.w) k f fd ps sp) (hr : Room k X.A) (hb : Binds X.K fd ps ds) (hd : Vals dvs ds) (tk : Takes X W)
    (ht : MethRead X o m apos pos [] pl) :
    PE X (.Call (.Attribute o m apos) [] [] pos) (fun σ H Q => ta σ H fun x H1 => ∃ a dx fs, x = .ref a ∧ H1 a = some (.ins C dx fs) ∧ fs.lookup m = none ∧ sp (x :: dvs) H1 Q (fun cls d H => W cls d σ H)) := by
  refine ⟨fun pins s σ H Q I h => ?_⟩
  refine PySem.W.methodCall_KW (pl := pl) (thn (he.run pins s σ H _ I h) fun u s1 ⟨x, H1, I1, rx, a, dx, fs, ex, ea, l, q⟩ => ?_) ht
  subst ex
  obtain rfl : u = Value.ref a := rx
  refine getmeth_ok I1 ea c hm l ?_
  exact PySem.W.callWith_K0 (first := [.ref a]) I1.kIn hm.kp (run_fnSD (us := [.ref a]) (vs := [.ref a]) (E := WE W) F hr hb hd (passAt tk σ) I1 (.cons rfl .nil) q)
theorem run_makeX {pins : List (Addr × Obj)} {σ : L2.St} {H : Hp} {s : Shared} {Q : VK} {us : List Value} {vs : List V} (M : Mk X.K C f) (F : FnOk X.prog X.w X.K X.mg X.base (L2.CX X.prog X.w) k f fd ps sp) (hr : Room (k + 1) X.A) (hb : Binds X.K fd ps ds) (hd : Vals dvs ds)
    (tk : Takes X W) (I : Inv X pins σ H s) (r : Vals vs us)
    (h : ∀ x dx, H x = none → H dx = none → dx ≠ x → sp (.ref x :: (vs ++ dvs)) (upd (upd H dx (.own x)) x (.ins C dx [])) (fun v H2 => v = .non ∧ Q (.ref x) H2) (fun cls d H => W cls d σ H)) :
    wpAny (model X.prog X.w) X.A (call (.ref C) us) (EP X pins σ Q) X.xe s := by
  have hq := h (s.heap.objs.size + 1) s.heap.objs.size (I.hok.fresh (Nat.le_succ _)) (I.hok.fresh (Nat.le_refl _)) (Nat.ne_of_lt (Nat.lt_succ_self _))
  have I2 := Inv.made (C := C) I
  have r2 : Vals (V.ref (s.heap.objs.size + 1) :: (vs ++ dvs)) (Value.ref (s.heap.objs.size + 1) :: (us ++ ds)) := .cons rfl (r.append hd)
  have hl : (Value.ref (s.heap.objs.size + 1) :: us ++ ds).length = ps.length := by
    have e := r2.length
    rw [F.len _ _ _ _ hq] at e
    exact e.symm
  refine wpAny_call (make_map (f := f) I.kIn M.makes M.init (beq_iff_eq.mp M.fn) (codeAny_mono (F.run _ X.stack _ _ ⟨Value.ref (s.heap.objs.size + 1) :: us, []⟩ (Value.ref (s.heap.objs.size + 1) :: (us ++ ds)) _ _ _ (hr.make C us [])
    (I2.env0.make C us []) (hb _ (Value.ref (s.heap.objs.size + 1) :: us) I2.kIn hl) r2 hq) fun r s' hq' => ?_))
  cases r with
  | error e => exact tk e s' (XE.of_call I2 (fun _ _ _ h => h) hq')
  | ok fl =>
    cases fl with
    | ret u =>
      obtain ⟨v, H', I3, rv, ev, q3⟩ := I2.after hq'
      subst ev
      exact ⟨rv, ⟨V.ref (s.heap.objs.size + 1), H', I3, rfl, q3⟩⟩
    | next => exact False.elim hq'
    | brk => exact False.elim hq'
    | cont => exact False.elim hq'
theorem pe_makeX (M : Mk X.K C f) (F : FnOk X.prog X.w X.K X.mg X.base (L2.CX X.prog X.w) k f fd ps sp) (hr : Room (k + 1) X.A) (hg : Gl X x) (hm : X.mg x = some (.ref C)) (hb : Binds X.K fd ps ds) (hd : Vals dvs ds) (tk : Takes X W)
    (ha : PA X (e :: es) t) (hdb : NotDbg x) (he : ArgsPlain X e es) (hpl : NoStar X pos es) :
    PE X (.Call (.Name x p) (e :: es) [] pos) (fun σ H Q => t σ H fun vs H1 => ∀ x dx, H1 x = none → H1 dx = none → dx ≠ x → sp (.ref x :: (vs ++ dvs)) (upd (upd H1 dx (.own x)) x (.ins C dx [])) (fun v H2 => v = .non ∧ Q (.ref x) H2) (fun cls d H => W cls d σ H)) := by
  refine ⟨fun pins s σ H Q I h => ?_⟩
  refine PySem.wpAny_Call_Name_kw (ld_glob I hg hm ?_ hdb)
  refine PySem.W.callWith_K (h₀ := X.base) I.ok.mod.kin M.kp (thn (ha.run pos pins s σ H _ I h) fun us s1 ⟨vs, H1, I1, r, q⟩ => ⟨I1.kIn, ?_⟩) he hpl
  exact run_makeX M F hr hb hd tk I1 r q
end

/-! ### the same by evaluators -/
section
variable {X : Cx} {T : Tb} {W : WX} {k n : Nat} {f C : Addr} {fd : FuncData} {ps ks : List Str} {dvs : List V} {dds : List D} {us : List Value} {x m : Str} {p pos apos : Pos} {e o : Expr} {es : List Expr} {kws : List Keyword} {Φ : Sm} {fs fz : En → R (List Vl)} {fo : En → R Vl}
def eCall (Φ : Sm) (n : Nat) (dds : List D) (fs : En → R (List Vl)) : En → R Vl := fun ρ => (fs ρ).bind fun as => if as.length + dds.length = n then callR Φ as dds else .bad
theorem q_call (F : FnOk X.prog X.w X.K X.mg X.base (L2.CX X.prog X.w) k f fd ps (spD X.K T n Φ)) (hr : Room k X.A) (hm : X.mg x = some (.ref f)) (hk : PySem.W.keepIn X.K (.ref f) = true) (hb : Binds X.K fd ps us) (hd : Vals dvs us) (hdd : ∀ G, Reps X.K T G dvs dds) (tk : Takes X W)
    (ha : QA X T W (e :: es) fs) (hg : Gl X x := by rfl) (hdb : NotDbg x := by decide) (he : ArgsPlain X e es := by rfl) (hpl : NoStar X pos es := by rfl) :
    QE X T W (.Call (.Name x p) (e :: es) [] pos) (eCall Φ n dds fs) := by
  obtain ⟨ta, pa, ha⟩ := ha.ex
  refine ⟨⟨_, pe_callSD (E := WE W) F hr hg hm hk hb hd (passAt tk) pa hdb he hpl, fun F' ρ σ H Rf Q h => ?_⟩⟩
  refine ha F' ρ σ H Rf _ (h.bind (stE _) fun as vs H1 _ e1 q1 h1 => ?_)
  have hc : as.length + dds.length = n := Decidable.byContradiction fun z => by rw [if_neg z] at h1; exact h1
  rw [if_pos hc] at h1
  have l1 := RepVs.length q1
  have l2 := (hdd H).length
  exact call_sp (Rf.mono e1) q1 hdd (by omega) h1
structure QK (X : Cx) (T : Tb) (W : WX) (kws : List Keyword) (f : En → R (List Vl)) : Prop where
  ex : ∃ t : TA, PK X kws t ∧ ∀ F ρ σ H, Fm X.K T F ρ σ H → ∀ Q, Pst ⟨X.K, T, F, ρ, σ, W⟩ (relA ⟨X.K, T, F, ρ, σ, W⟩) (f ρ) H Q → t σ H Q
theorem qk_nil : QK X T W [] aNil := ⟨⟨tNil, pk_nil, fun F ρ σ H Rf Q h => h [] H (Ex.refl _) .nil⟩⟩
theorem qk_cons {nm : Option Str} {kpos : Pos} {f : En → R Vl} (ha : QE X T W e f) (hr : QK X T W kws fs) : QK X T W (⟨nm, e, kpos⟩ :: kws) (aCons f fs) := by
  obtain ⟨ta, pa, ha⟩ := ha.ex
  obtain ⟨tr, pr, hr⟩ := hr.ex
  refine ⟨⟨_, pk_cons pa pr, fun F ρ σ H Rf Q h => ?_⟩⟩
  refine ha F ρ σ H Rf _ (h.bind (stA _) fun x vx H1 ef e1 q1 h1 => ?_)
  refine hr F ρ σ H1 (Rf.mono e1) _ (h1.bind (stA _) fun xs vs H2 efs e2 q2 h2 => ?_)
  unfold aCons at h
  rw [ef, R.bind_ok, efs, R.bind_ok] at h
  exact h _ H2 (e1.trans e2) (.cons _ _ _ _ (RepV.mono (Ex.refl _) e2 q1) (RepVs.mono e1 (Ex.refl _) q2))
theorem RepVs.append {K : PySem.W.Frag} {F : Fp} {ρ : En} {σ : L2.St} {Hs H : Hp} : ∀ {vs ws : List V} {as bs : List Vl}, RepVs K T F ρ σ Hs H vs as → RepVs K T F ρ σ Hs H ws bs → RepVs K T F ρ σ Hs H (vs ++ ws) (as ++ bs)
  | _, _, _, _, .nil, s => s
  | _, _, _, _, .cons v a vs as h r, s => .cons _ _ _ _ h (RepVs.append r s)
/-- all parameters given, the keywords behind the others, in the parameters' order -/
def eCallK (Φ : Sm) (np nk : Nat) (fs fz : En → R (List Vl)) : En → R Vl := fun ρ => (fs ρ).bind fun as => (fz ρ).bind fun zs => if as.length = np ∧ zs.length = nk then callR Φ (as ++ zs) [] else .bad
theorem q_callK {np : Nat} (F : FnOk X.prog X.w X.K X.mg X.base (L2.CX X.prog X.w) k f fd ps (spD X.K T n Φ)) (hr : Room k X.A) (hm : X.mg x = some (.ref f)) (hk : PySem.W.keepIn X.K (.ref f) = true) (hb : KBn X.K fd ps np ks (fun us ws => us ++ ws) (fun vs zs => vs ++ zs)) (hn : np + ks.length = n) (tk : Takes X W)
    (ha : QA X T W (e :: es) fs) (hkw : QK X T W kws fz) (hg : Gl X x := by rfl) (hall : (backToKw pos (keywordEach kws X.env)).all (·.1.isSome) = true := by rfl) (hks : (backToKw pos (keywordEach kws X.env)).filterMap (·.1) = ks := by rfl)
    (hdb : NotDbg x := by decide) (he : ArgsPlain X e es := by rfl)
    (hpl : NoStarKw X pos (e :: es) kws := by rfl) :
    QE X T W (.Call (.Name x p) (e :: es) kws pos) (eCallK Φ np ks.length fs fz) := by
  obtain ⟨ta, pa, ha⟩ := ha.ex
  obtain ⟨tz, pz, hz⟩ := hkw.ex
  refine ⟨⟨_, pe_callKX F hr hg hm hk hb tk pa pz hall hks hdb he hpl, fun F' ρ σ H Rf Q h => ?_⟩⟩
  refine ha F' ρ σ H Rf _ (h.bind (stE _) fun as vs H1 ef e1 q1 h1 => ?_)
  refine hz F' ρ σ H1 (Rf.mono e1) _ (h1.bind (stE _) fun zs ws H2 efz e2 q2 h2 => ?_)
  have hc : as.length = np ∧ zs.length = ks.length := Decidable.byContradiction fun z => by rw [if_neg z] at h2; exact h2
  rw [if_pos hc] at h2
  have l1 := RepVs.length q1
  have l2 := RepVs.length q2
  refine ⟨by omega, by omega, ?_⟩
  have q := call_sp (dvs := []) (Rf.mono (e1.trans e2)) (RepVs.append (RepVs.mono (Ex.refl _) e2 q1) (RepVs.mono e1 (Ex.refl _) q2)) (fun G => Reps.nil) (n := n) (by rw [List.length_append]; simp; omega) h2
  rw [List.append_nil] at q
  exact q
/-- o.m(e, ..) -/
def eMeth (c : Nat) (Φ : Sm) (n : Nat) (dds : List D) (fo : En → R Vl) (fs : En → R (List Vl)) : En → R Vl := fun ρ => (fo ρ).bind fun x => match x.d with
  | .obj c' _ => if c' = c then (fs ρ).bind fun as => if as.length + dds.length + 1 = n then callR Φ (x :: as) dds else .bad else .bad
  | _ => .bad
theorem no_field : ∀ {N : List Str} {vs : List V} {m : Str}, m ∉ N → (N.zip vs).lookup m = none
  | [], _, _, _ => by simp
  | n :: N, [], _, _ => by simp
  | n :: N, v :: vs, m, h => by
    rw [List.zip_cons_cons, List.lookup_cons]
    have e : (m == n) = false := by
      have : m ≠ n := fun z => h (by simp [z])
      simpa using this
    rw [e]
    exact no_field fun z => h (List.mem_cons_of_mem _ z)
theorem q_meth (c : Nat) {pl : Sem Bool} (ho : QE X T W o fo) (cl : Cls X.K (T.ca c)) (hno : m ∉ T.cf c) (hm : Meth X.K (T.ca c) m f) (F : FnOk X.prog X.w X.K X.mg X.base (L2.CX X.prog X.w) k f fd ps (spD X.K T n Φ)) (hr : Room k X.A) (hb : Binds X.K fd ps us) (hd : Vals dvs us) (hdd : ∀ G, Reps X.K T G dvs dds) (tk : Takes X W) (ha : QA X T W (e :: es) fs)
    (hst : ArgsPlain X e es := by rfl) (hpl : NoStar X pos es := by rfl)
    (ht : MethRead X o m apos pos (e :: es) pl := by rfl) :
    QE X T W (.Call (.Attribute o m apos) (e :: es) [] pos) (eMeth c Φ n dds fo fs) := by
  obtain ⟨to, po, ho⟩ := ho.ex
  obtain ⟨ta, pa, ha⟩ := ha.ex
  refine ⟨⟨_, pe_methX po cl hm F hr hb hd tk pa hst hpl ht, fun F' ρ σ H Rf Q h => ?_⟩⟩
  refine ho F' ρ σ H Rf _ (h.bind (stE _) fun x vx H1 ex e1 q1 h1 => ?_)
  have Rf1 := Rf.mono e1
  split at h1
  · rename_i c' l hx
    split at h1
    · rename_i hc
      subst hc
      obtain ⟨a, dx, vs, rfl, h2, h3, h4⟩ := obj_of Rf1 q1 hx
      refine ⟨a, dx, _, rfl, h2, no_field hno, ?_⟩
      refine ha F' ρ σ H1 Rf1 _ (h1.bind (stE _) fun as ws H2 _ e2 q2 h5 => ?_)
      have hc : as.length + dds.length + 1 = n := Decidable.byContradiction fun z => by rw [if_neg z] at h5; exact h5
      rw [if_pos hc] at h5
      have l1 := RepVs.length q2
      have l2 := (hdd H).length
      exact call_sp (Rf1.mono e2) (.cons _ _ _ _ (RepV.mono (Ex.refl _) e2 q1) (RepVs.mono e1 (Ex.refl _) q2)) hdd (by rw [List.length_cons]; omega) h5
    · exact h1.elim
  · exact h1.elim
theorem q_meth0 (c : Nat) {pl : Sem Bool} (ho : QE X T W o fo) (cl : Cls X.K (T.ca c)) (hno : m ∉ T.cf c) (hm : Meth X.K (T.ca c) m f) (F : FnOk X.prog X.w X.K X.mg X.base (L2.CX X.prog X.w) k f fd ps (spD X.K T n Φ)) (hr : Room k X.A) (hb : Binds X.K fd ps us) (hd : Vals dvs us) (hdd : ∀ G, Reps X.K T G dvs dds) (tk : Takes X W)
    (ht : MethRead X o m apos pos [] pl := by rfl) :
    QE X T W (.Call (.Attribute o m apos) [] [] pos) (eMeth c Φ n dds fo aNil) := by
  obtain ⟨to, po, ho⟩ := ho.ex
  refine ⟨⟨_, pe_methX0 po cl hm F hr hb hd tk ht, fun F' ρ σ H Rf Q h => ?_⟩⟩
  refine ho F' ρ σ H Rf _ (h.bind (stE _) fun x vx H1 ex e1 q1 h1 => ?_)
  have Rf1 := Rf.mono e1
  split at h1
  · rename_i c' l hx
    split at h1
    · rename_i hc
      subst hc
      obtain ⟨a, dx, vs, rfl, h2, h3, h4⟩ := obj_of Rf1 q1 hx
      refine ⟨a, dx, _, rfl, h2, no_field hno, ?_⟩
      have h1 : Pst ⟨X.K, T, F', ρ, σ, W⟩ (relE ⟨X.K, T, F', ρ, σ, W⟩) (if 0 + dds.length + 1 = n then callR Φ [x] dds else .bad) H1 Q := h1
      have hc : 0 + dds.length + 1 = n := Decidable.byContradiction fun z => by rw [if_neg z] at h1; exact h1
      rw [if_pos hc] at h1
      have l2 := (hdd H).length
      exact call_sp (vs := [.ref a]) Rf1 (.cons _ _ _ _ q1 .nil) hdd (by simp; omega) h1
    · exact h1.elim
  · exact h1.elim
/-- C(e, ..) -/
def newR (c : Nat) (Ψ : Sf) (as : List Vl) (dds : List D) : R Vl := match plain as with
  | some p => (match Ψ (p.1 ++ dds) with
    | .ok r => .ok ⟨.obj c r.1, .pl, r.2⟩
    | .exc k l => .exc k l
    | .bad => .bad)
  | none => .bad
def eNew (c : Nat) (Ψ : Sf) (n : Nat) (dds : List D) (fs : En → R (List Vl)) : En → R Vl := fun ρ => (fs ρ).bind fun as => if as.length + dds.length = n then newR c Ψ as dds else .bad
theorem q_new (c : Nat) {Ψ : Sf} (M : Mk X.K (T.ca c) f) (F : FnOk X.prog X.w X.K X.mg X.base (L2.CX X.prog X.w) k f fd ps (spI X.K T c n Ψ)) (hr : Room (k + 1) X.A) (hm : X.mg x = some (.ref (T.ca c))) (hb : Binds X.K fd ps us) (hd : Vals dvs us) (hdd : ∀ G, Reps X.K T G dvs dds) (tk : Takes X W)
    (ha : QA X T W (e :: es) fs) (hg : Gl X x := by rfl) (hdb : NotDbg x := by decide) (he : ArgsPlain X e es := by rfl) (hpl : NoStar X pos es := by rfl) :
    QE X T W (.Call (.Name x p) (e :: es) [] pos) (eNew c Ψ n dds fs) := by
  obtain ⟨ta, pa, ha⟩ := ha.ex
  refine ⟨⟨_, pe_makeX M F hr hg hm hb hd tk pa hdb he hpl, fun F' ρ σ H Rf Q h => ?_⟩⟩
  refine ha F' ρ σ H Rf _ (h.bind (stE _) fun as vs H1 _ e1 q1 h1 => ?_)
  have hc : as.length + dds.length = n := Decidable.byContradiction fun z => by rw [if_neg z] at h1; exact h1
  rw [if_pos hc] at h1
  have l1 := RepVs.length q1
  have l2 := (hdd H).length
  have Rf1 := Rf.mono e1
  unfold newR at h1
  cases hp : plain as with
  | none => rw [hp] at h1; exact h1.elim
  | some pq =>
  obtain ⟨ds, fl⟩ := pq
  rw [hp] at h1
  have h1 : Pst ⟨X.K, T, F', ρ, σ, W⟩ (relE ⟨X.K, T, F', ρ, σ, W⟩) (match Ψ (ds ++ dds) with
    | .ok r => .ok ⟨.obj c r.1, .pl, r.2⟩
    | .exc k l => .exc k l
    | .bad => .bad) H1 Q := h1
  intro x dx hx hdx nex
  have hmx : (upd H1 dx (.own x)) x = none := by rw [upd_ne (Ne.symm nex)]; exact hx
  have x1 : Ex H1 (upd H1 dx (.own x)) := Ex.new hdx
  refine ⟨by rw [List.length_cons, List.length_append]; omega, x, dx, vs ++ dvs, upd H1 dx (.own x), visB F' ρ σ H1, ds ++ dds, rfl, upd_same, Ex.new hmx, hmx, Rf1.vH.trans x1, ((plain_reps q1 hp).mono hp_vis).append (hdd _), ?_⟩
  cases ho : Ψ (ds ++ dds) with
  | ok r =>
    rw [ho] at h1
    refine fun us dy H' V' cp vx hx' rr hl => ⟨rfl, h1 (.ref x) H' (x1.trans cp.h) ?_⟩
    obtain ⟨nh, h0⟩ := Rf1.nohid hx
    refine Rep.obj x dy c us r.1 ?_ ?_ hl
    · cases hf : r.2 with
      | true => exact (newB_new nh h0).trans hx'
      | false => exact (visB_new nh h0).trans hx'
    · cases hf : r.2 with
      | true => rw [hf] at rr; exact rr.mono (only_new' Rf1 x1 cp)
      | false => rw [hf] at rr; exact rr.mono (vis_after' Rf1 x1 cp)
  | exc k l =>
    rw [ho] at h1
    exact fun dd H' V' cp q => h1 dd H' (x1.trans cp.h) (q.mono (vis_after' Rf1 x1 cp) (Ex.refl _))
  | bad => rw [ho] at h1; exact h1.elim
end
end Ev
set_option maxHeartbeats 1000000
/-! Ev10: what is never reached; isinstance; chains; raise; try. -/
namespace Ev
open PySem L2

/-! ### never -/
section
variable {X : Cx} {T : Tb} {W : WX} {st : Stmt} {sts : List Stmt} {e : Expr}
def xBad {α : Type} : En → R α := fun _ => .bad
def sBad : En → Out := fun _ => .bad
theorem s_bad : QS X T W st sBad := ⟨⟨_, ps_never, fun _ _ _ _ _ _ h => h.elim⟩⟩
theorem ss_bad : QSs X T W sts sBad := ⟨⟨_, pss_never, fun _ _ _ _ _ _ h => h.elim⟩⟩
theorem q_bad : QE X T W e xBad := ⟨⟨fun _ _ _ => False, ⟨fun _ _ _ _ _ _ h => h.elim⟩, fun _ _ _ _ _ _ h => h.elim⟩⟩
end

/-! ### isinstance -/
def tyV (T : Tb) : D → Value
  | .non => .type "NoneType"
  | .bl _ => .type "bool"
  | .int _ => .type "int"
  | .str _ => .type "str"
  | .lst _ => .type "list"
  | .lsk _ => .type "list"
  | .tup _ => .type "tuple"
  | .dct _ => .type "dict"
  | .obj c _ => .ref (T.ca c)
structure OwC (K : PySem.W.Frag) (C : Addr) : Prop where
  cl : Cls K C
  ha : PySem.W.findIn K (.ref C) "__class__" = some (some (.builtin "object.__class__"))
  hn : PySem.W.specialIn K (.builtin "object.__class__") "__get__" = some (some (.builtin "getset_descriptor.__get__"))
  ht : PySem.W.takesIn K (.builtin "object.__class__") = some true
  hm : PySem.W.mroIn K C (.type "object") = some true
theorem tyX {K : PySem.W.Frag} {T : Tb} {F : Fp} {ρ : En} {σ : L2.St} {Hs H : Hp} (Rf : Fm K T F ρ σ H) {v : V} {a : Vl} (h : RepV K T F ρ σ v a Hs H) (ho : ∀ c l, a.d = .obj c l → OwC K (T.ca c)) : TyX K H v (tyV T a.d) := by
  have q := h.sh Rf.vH
  obtain ⟨d, m, f⟩ := a
  cases d with
  | non => cases (show Rep K T _ v .non from q); exact .base .non
  | bl b => cases (show Rep K T _ v (.bl b) from q); exact .base (.bl b)
  | int b => cases (show Rep K T _ v (.int b) from q); exact .base (.int b)
  | str b => cases (show Rep K T _ v (.str b) from q); exact .base (.str _)
  | lst l =>
    obtain ⟨p, vs, rfl, h2, _⟩ := q
    exact .base (.lst h2)
  | dct l =>
    obtain ⟨p, vs, rfl, h2, _⟩ := q
    exact .base (.dK h2)
  | obj c l =>
    obtain ⟨p, dx, vs, rfl, h2, _⟩ := q
    have o := ho c l rfl
    exact .base (.ins h2 o.cl o.ha o.hn o.ht o.hm)
  | lsk l =>
    cases (show Rep K T _ v (.lsk l) from q) with
    | lsk p vs _ h2 _ =>
      rcases Rf.hH.sqL h2 with (h3 | ⟨o, h3⟩) | ⟨o, its, n, h3, h4, _⟩
      · exact .base (.lst h3)
      · exact .base (.frz h3)
      · exact .kList h3 h4
  | tup l =>
    cases (show Rep K T _ v (.tup l) from q) with
    | tup p vs _ h2 _ =>
      rcases Rf.hH.sqT h2 with (h3 | ⟨o, h3⟩) | ⟨o, its, n, h3, h4, _⟩
      · exact .base (.tup h3)
      · exact .fTuple h3
      · exact .kTuple h3 h4
def eIsi (tab : D → Option Bool) (f : En → R Vl) : En → R Vl := fun ρ => (f ρ).bind fun x => ofO (tab x.d) fun b => sc (.bl b)
/-- the table of one class; ob: the own classes' answers -/
def tabB (n : String) (ob : Nat → Option Bool) : D → Option Bool
  | .non => kitB "NoneType" n
  | .bl _ => kitB "bool" n
  | .int _ => kitB "int" n
  | .str _ => kitB "str" n
  | .lst _ => kitB "list" n
  | .lsk _ => kitB "list" n
  | .tup _ => kitB "tuple" n
  | .dct _ => kitB "dict" n
  | .obj c _ => ob c
def tabO (ob : Nat → Option Bool) : D → Option Bool
  | .obj c _ => ob c
  | _ => some false
def noOb : Nat → Option Bool := fun _ => none
structure TabOk (K : PySem.W.Frag) (T : Tb) (us : List Value) (tab : D → Option Bool) : Prop where
  ob : ∀ c l b, tab (.obj c l) = some b → OwC K (T.ca c)
  ok : ∀ d b, tab d = some b → PySem.W.kitAny K (tyV T d) us = some b
theorem kitAny_one {K : PySem.W.Frag} {t u : Value} {b : Bool} (h : PySem.W.kitOne K t u = some b) : PySem.W.kitAny K t [u] = some b :=
  kitAny_cons h (fun z => by rw [z]; exact kitAny_nil) (fun z => z)
theorem kitOne_of {K : PySem.W.Frag} {t u : Value} {b : Bool} (h : PySem.W.kitAny K t [u] = some b) : PySem.W.kitOne K t u = some b := by
  unfold PySem.W.kitAny at h
  cases hk : PySem.W.kitOne K t u with
  | none => rw [hk] at h; cases h
  | some k =>
    rw [hk] at h
    cases k with
    | true => exact h
    | false => exact h
section
variable {X : Cx} {T : Tb} {W : WX} {e ce ce2 : Expr} {f : En → R Vl} {tab : D → Option Bool} {p pos pos2 : Pos} {c c2 : V} {u u2 : Value} {x1 : Nat}
theorem q_isi (he : QE X T W e f) (hc : PE X ce (tC c)) (k : ClsV c u) (ht : TabOk X.K T [u] tab) (hm : X.mg "isinstance" = none) (hv : bootBuiltins "isinstance" = some (.builtin "isinstance")) (hg : Gl X "isinstance" := by rfl)
    (s1 : starEach [e, ce] X.env = (false, eval e X.env) :: starEach [ce] X.env := by rfl) (s2 : starEach [ce] X.env = (false, eval ce X.env) :: starEach [] X.env := by rfl) (hpl : (backTo pos (starEach [ce] X.env)).any (·.1) = false := by rfl) :
    QE X T W (.Call (.Name "isinstance" p) [e, ce] [] pos) (eIsi tab f) := by
  obtain ⟨te, pe, hf⟩ := he.ex
  refine ⟨⟨_, pe_callB call_isi hg hm hv (pa_cons pe (pa_cons hc pa_nil s2) s1) (by decide) (by decide) s1 hpl, fun F ρ σ H Rf Q h => ?_⟩⟩
  refine hf F ρ σ H Rf _ (h.bind (stE _) fun x vx H1 _ e1 q1 h1 => ?_)
  obtain ⟨b, eb, hb⟩ := Pst.ofO h1
  refine ⟨vx, c, _, u, b, rfl, k, tyX (Rf.mono e1) q1 (fun cc l z => ht.ob cc l b (by rw [← z]; exact eb)), kitOne_of (ht.ok _ _ eb), hb _ H1 (Ex.refl _) (Rep.bl b)⟩
theorem q_isiT (he : QE X T W e f) (hc : PE X ce (tC c)) (k : ClsV c u) (hc2 : PE X ce2 (tC c2)) (k2 : ClsV c2 u2) (ht : TabOk X.K T [u, u2] tab) (hm : X.mg "isinstance" = none) (hv : bootBuiltins "isinstance" = some (.builtin "isinstance")) (hg : Gl X "isinstance" := by rfl)
    (s1 : starEach [e, .Tuple [ce, ce2] x1 pos2] X.env = (false, eval e X.env) :: starEach [.Tuple [ce, ce2] x1 pos2] X.env := by rfl) (s2 : starEach [.Tuple [ce, ce2] x1 pos2] X.env = (false, eval (.Tuple [ce, ce2] x1 pos2) X.env) :: starEach [] X.env := by rfl) (hpl : (backTo pos (starEach [.Tuple [ce, ce2] x1 pos2] X.env)).any (·.1) = false := by rfl)
    (s3 : starEach [ce, ce2] X.env = (false, eval ce X.env) :: starEach [ce2] X.env := by rfl) (s4 : starEach [ce2] X.env = (false, eval ce2 X.env) :: starEach [] X.env := by rfl) :
    QE X T W (.Call (.Name "isinstance" p) [e, .Tuple [ce, ce2] x1 pos2] [] pos) (eIsi tab f) := by
  obtain ⟨te, pe, hf⟩ := he.ex
  refine ⟨⟨_, pe_callB call_isiT hg hm hv (pa_cons pe (pa_cons (pe_tup (pa_cons hc (pa_cons hc2 pa_nil s4) s3)) pa_nil s2) s1) (by decide) (by decide) s1 hpl, fun F ρ σ H Rf Q h => ?_⟩⟩
  refine hf F ρ σ H Rf _ (h.bind (stE _) fun x vx H1 _ e1 q1 h1 => ?_)
  obtain ⟨b, eb, hb⟩ := Pst.ofO h1
  refine ⟨by rw [sizeLine_eq]; show 2 ≤ _; decide, fun tp htp => ?_⟩
  have e3 : Ex H1 (upd H1 tp (.tup [c, c2])) := Ex.new htp
  refine ⟨vx, tp, [c, c2], _, [u, u2], b, rfl, upd_same, .cons k (.cons k2 .nil), tyX (Rf.mono (e1.trans e3)) (RepV.mono (Ex.refl _) e3 q1) (fun cc l z => ht.ob cc l b (by rw [← z]; exact eb)), ht.ok _ _ eb, hb _ _ e3 (Rep.bl b)⟩
/-- x <op> y <op'> z -/
theorem qt_chain {op op' : CmpOp} {r r' : R2} {g g' : Vl → Vl → Option Bool} {a b d : Expr} {f1 f2 f3 : En → R Vl} (ho : OpR X (compareOp op) r) (ho' : OpR X (compareOp op') r') (hs : SndC X.K T r g) (hs' : SndC X.K T r' g') (ha : QE X T W a f1) (hb : QE X T W b f2) (hd : QE X T W d f3)
    (hm : lastMarks [op, op'] [b, d] = false := by with_unfolding_all rfl) : QT X T W (.Compare a [op, op'] [b, d] pos) (t3 g g' f1 f2 f3) := by
  obtain ⟨ta, pa, ha⟩ := ha.ex
  obtain ⟨tb, pb, hb⟩ := hb.ex
  obtain ⟨td, pd, hd⟩ := hd.ex
  refine ⟨⟨_, pt_chain ho ho' pa pb pd hm, fun F ρ σ H Rf Q h => ?_⟩⟩
  refine ha F ρ σ H Rf _ (h.bind stB fun x vx H1 _ e1 q1 h1 => ?_)
  refine hb F ρ σ H1 (Rf.mono e1) _ (h1.bind stB fun y vy H2 _ e2 q2 h2 => ?_)
  obtain ⟨k, ek, hk⟩ := Pst.ofO h2
  have q1' := RepV.mono (Ex.refl _) e2 q1
  have q2' := RepV.mono e1 (Ex.refl _) q2
  refine hs F ρ σ H H2 vx vy x y _ k (Rf.mono (e1.trans e2)) q1' q2' ek fun H3 e3 => ⟨k, rfl, ?_⟩
  cases k with
  | false => exact ⟨false, rfl, hk false H3 e3 rfl⟩
  | true =>
    rw [if_pos rfl]
    have hk := Pst.later stB e3 (show Pst _ relB ((f3 ρ).bind fun z => ofO (g' y z) .ok) H2 Q from hk)
    refine hd F ρ σ H3 (Rf.mono ((e1.trans e2).trans e3)) _ (hk.bind stB fun z vz H4 _ e4 q4 h4 => ?_)
    obtain ⟨k', ek', hk'⟩ := Pst.ofO h4
    exact hs' F ρ σ H H4 vy vz y z _ k' (Rf.mono (((e1.trans e2).trans e3).trans e4)) (RepV.mono (Ex.refl _) (e3.trans e4) q2') (RepV.mono ((e1.trans e2).trans e3) (Ex.refl _) q4) ek' fun H5 e5 => ⟨k', rfl, hk' k' H5 e5 rfl⟩
end
end Ev
set_option maxHeartbeats 1000000
/-! Ev11: exceptions made by their own __init__, raised. -/
namespace Ev
open PySem L2

section
variable {K : PySem.W.Frag} {T : Tb} {F : Fp} {ρ : En} {σ : L2.St} {H H1 : Hp}
theorem sh_at {p : Addr} {d : D} {G : Hp} (q : ShRep K T H G (.ref p) d) (o : ownb d = true) : ∃ u, H p = some u := by
  cases d with
  | lst ds => obtain ⟨_, vs, z, h3, _⟩ := q; cases z; exact ⟨_, h3⟩
  | dct ds => obtain ⟨_, vs, z, h3, _⟩ := q; cases z; exact ⟨_, h3⟩
  | obj c ds => obtain ⟨_, dx, vs, z, h3, _⟩ := q; cases z; exact ⟨_, h3⟩
  | non => cases o
  | bl _ => cases o
  | int _ => cases o
  | str _ => cases o
  | lsk _ => cases o
  | tup _ => cases o
/-- a new place is hidden from its birth -/
theorem fm_hideN (Rf : Fm K T F ρ σ H) (hn : noEx ρ = true) {p : Addr} {o : HO} (hp : H p = none) : Fm K T (F.hide p) ρ σ (upd H p o) ∧ Ex (visB F ρ σ H) (visB (F.hide p) ρ σ (upd H p o)) := by
  have e : Ex H (upd H p o) := Ex.new hp
  have up : ∀ {f : Bool}, Ex (hpB F ρ σ H f) (hpB (F.hide p) ρ σ (upd H p o) f) := fun {f} => hp_born Rf hp e
  refine ⟨⟨Rf.ex.trans e, Rf.sub, Rf.len, fun i x hx => ?_, Rf.dis, fun a ha => ?_⟩, up (f := false)⟩
  · have q := Rf.sl i x hx
    cases x with
    | un => exact True.intro
    | ex c l => exact absurd hx (noEx_at hn)
    | sh d f =>
      obtain ⟨v, q1, q2⟩ := q
      exact ⟨v, q1, q2.mono up⟩
    | ow d f =>
      obtain ⟨a, q1, q2, q3, q4, q5, q6⟩ := q
      refine ⟨a, q1, q2, q3.mono e up, fun z => ?_, q5, q6⟩
      rcases List.mem_cons.mp z with z | z
      · obtain ⟨u, hu⟩ := sh_at q3 q5
        rw [z, hp] at hu
        cases hu
      · exact q4 z
  · rcases List.mem_cons.mp ha with z | z
    · subst z
      exact ⟨(Rf.nohid hp).2, o, upd_same⟩
    · obtain ⟨h0, u, hu⟩ := Rf.hid a z
      exact ⟨h0, u, e _ _ hu⟩
/-- a hidden place is written -/
theorem fm_hput (Rf : Fm K T F ρ σ H) (hn : noEx ρ = true) {p : Addr} {o : HO} (hp : p ∈ F.hs) : Fm K T F ρ σ (upd H p o) ∧ Ex (visB F ρ σ H) (visB F ρ σ (upd H p o)) := by
  have h0 := (Rf.hid p hp).1
  have up : ∀ {f : Bool}, Ex (hpB F ρ σ H f) (hpB F ρ σ (upd H p o) f) := fun {f} => hp_upd (.inr hp)
  refine ⟨⟨fun a u z => ?_, Rf.sub, Rf.len, fun i x hx => ?_, Rf.dis, fun a ha => ?_⟩, up (f := false)⟩
  · rw [upd_ne (ne_of_none z h0)]
    exact Rf.ex _ _ z
  · have q := Rf.sl i x hx
    cases x with
    | un => exact True.intro
    | ex c l => exact absurd hx (noEx_at hn)
    | sh d f =>
      obtain ⟨v, q1, q2⟩ := q
      exact ⟨v, q1, q2.mono up⟩
    | ow d f =>
      obtain ⟨a, q1, q2, q3, q4, q5, q6⟩ := q
      have ne : a ≠ p := fun z => q4 (z ▸ hp)
      refine ⟨a, q1, q2, ?_, q4, q5, q6⟩
      cases d with
      | lst ds => obtain ⟨_, vs, z, z1, z2⟩ := q3; cases z; exact ⟨_, vs, rfl, by rw [upd_ne ne]; exact z1, z2.mono up⟩
      | dct ds => obtain ⟨_, vs, z, z1, z2⟩ := q3; cases z; exact ⟨_, vs, rfl, by rw [upd_ne ne]; exact z1, z2.mono up⟩
      | obj c ds => obtain ⟨_, dx, vs, z, z1, z2, z3⟩ := q3; cases z; exact ⟨_, dx, vs, rfl, by rw [upd_ne ne]; exact z1, z2.mono up, z3⟩
      | _ => cases q5
  · obtain ⟨h0, u, hu⟩ := Rf.hid a ha
    by_cases z : a = p
    · rw [z]; exact ⟨by rw [← z]; exact h0, o, upd_same⟩
    · exact ⟨h0, u, by rw [upd_ne z]; exact hu⟩
end
theorem zip_snoc : ∀ {N : List Str} {vs : List V} {f : Str} {y : V}, N[vs.length]? = some f → N.zip (vs ++ [y]) = N.zip vs ++ [(f, y)]
  | [], _, _, _, h => by simp at h
  | n :: N, [], f, y, h => by
    simp at h
    subst h
    simp
  | n :: N, v :: vs, f, y, h => by
    simp only [List.cons_append, List.zip_cons_cons]
    rw [zip_snoc (by simpa using h)]

/-- the exception at x that is being made, the fields vs so far -/
structure XSt (K : PySem.W.Frag) (T : Tb) (F : Fp) (ρ : En) (σ : L2.St) (H : Hp) (x : Addr) (c : Nat) (vs : List V) (ds : List D) : Prop where
  fm : Fm K T F ρ σ H
  no : noEx ρ = true
  sl : σ[0]? = some (some (.ref x))
  hx : x ∈ F.hs
  ob : (vs = [] ∧ H x = some (exo x (T.ca c) none)) ∨ ∃ d, d ∈ F.hs ∧ d ≠ x ∧ H x = some (exo x (T.ca c) (some d)) ∧ H d = some (exd d ((T.cf c).zip vs).reverse)
  le : vs.length ≤ 900
  rp : Reps K T (visB F ρ σ H) vs ds
structure QX (X : Cx) (T : Tb) (W : WX) (c k : Nat) (sts : List Stmt) (g : En → R (List D)) : Prop where
  ex : ∃ t : TS, PSs X sts t ∧ ∀ x F ρ σ H vs ds, XSt X.K T F ρ σ H x c vs ds → vs.length = k → ∀ E : Ends, (match g ρ with
    | .ok l => ∀ F' H' vs', F'.H0 = F.H0 → F'.V0 = F.V0 → XSt X.K T F' ρ σ H' x c vs' (ds ++ l) → E.nx σ H'
    | _ => False) → t E σ H
def xNil : En → R (List D) := fun _ => .ok []
def xCons (fe : En → R Vl) (g : En → R (List D)) : En → R (List D) := fun ρ => (fe ρ).bind fun a => (g ρ).bind fun l => if nb? a = true then .ok (a.d :: l) else .bad
section
variable {X : Cx} {T : Tb} {W : WX} {c k : Nat} {rest : List Stmt} {e : Expr} {fe : En → R Vl} {g : En → R (List D)} {pos p1 p2 : Pos} {sf f : Str}
theorem qx_nil : QX X T W c k [] xNil := ⟨⟨_, pss_nil, fun x F ρ σ H vs ds S _ E h => h F H vs rfl rfl (by rw [List.append_nil]; exact S)⟩⟩
theorem qx_cons (T1 : OexC X.K (T.ca c)) (hno : PySem.W.findIn X.K (.ref (T.ca c)) f = some none) (hf : (T.cf c)[k]? = some f) (hk : k < 900) (he : QE X T W e fe) (hr : QX X T W c (k + 1) rest g) (hN : X.N[0]? = some sf := by rfl)
    (hv : Vis X.env.scope sf := by first | exact Or.inl rfl | exact Or.inr (Or.inl rfl) | exact Or.inr (Or.inr rfl)) (hd : (sf == ("__debug__" : Str)) = false := by decide) (hcd : (sf == ("__classdict__" : Str)) = false := by decide)
    (hs : swapsWith e (some (.Attribute (.Name sf p1) f p2)) pos.line X.env = pure false := by rfl) :
    QX X T W c k (.Assign [.Attribute (.Name sf p1) f p2] e pos :: rest) (xCons fe g) := by
  obtain ⟨te, pe, hfe⟩ := he.ex
  obtain ⟨tr, pr, hr⟩ := hr.ex
  refine ⟨⟨_, pss_cons (ps_ost (pe_var hN hv hd hcd) pe hs) pr, fun x F ρ σ H vs ds S hl E h => ?_⟩⟩
  unfold xCons at h
  refine hfe F ρ σ H S.fm _ ?_
  cases ha : fe ρ with
  | exc c l => rw [ha] at h; exact h.elim
  | bad => rw [ha] at h; exact h.elim
  | ok a =>
  rw [ha, R.bind_ok] at h
  cases hg : g ρ with
  | exc c l => rw [hg] at h; exact h.elim
  | bad => rw [hg] at h; exact h.elim
  | ok l =>
  rw [hg, R.bind_ok] at h
  cases hb : nb? a with
  | false => rw [hb] at h; exact h.elim
  | true =>
  rw [hb, if_pos rfl] at h
  have h : ∀ F' H' vs', F'.H0 = F.H0 → F'.V0 = F.V0 → XSt X.K T F' ρ σ H' x c vs' (ds ++ (a.d :: l)) → E.nx σ H' := h
  refine fun y H1 e1 q1 => ⟨.ref x, S.sl, x, T.ca c, rfl, T1, hno, ?_⟩
  have q1 : Rep X.K T (visB F ρ σ H1) y a.d := (q1.pl (nb_of hb)).mono hp_vis
  have R1 := S.fm.mono e1
  have rp1 : Reps X.K T (visB F ρ σ H1) (vs ++ [y]) (ds ++ [a.d]) := (S.rp.mono (vis_mono e1)).append (.cons _ _ _ _ q1 .nil)
  have hz : ((T.cf c).zip (vs ++ [y])).reverse = (f, y) :: ((T.cf c).zip vs).reverse := by
    rw [zip_snoc (by rw [hl]; exact hf), List.reverse_append]
    rfl
  have go : ∀ F' H', F'.H0 = F.H0 → F'.V0 = F.V0 → XSt X.K T F' ρ σ H' x c (vs ++ [y]) (ds ++ [a.d]) → tr E σ H' := fun F' H' z1 z2 S' => by
    refine hr x F' ρ σ H' _ _ S' (by simp [hl]) E ?_
    rw [hg]
    exact fun F2 H2 vs2 y1 y2 S2 => h F2 H2 vs2 (y1.trans z1) (y2.trans z2) (by
      have q := S2
      rw [List.append_assoc] at q
      exact q)
  have hle : (vs ++ [y]).length ≤ 900 := by simp; omega
  rcases S.ob with ⟨v0, ob⟩ | ⟨d, hd1, hd2, hd3, hd4⟩
  · left
    refine ⟨e1 _ _ ob, fun dx hdx hne => ?_⟩
    obtain ⟨R2, u2⟩ := fm_hideN R1 S.no (o := exd dx [(f, y)]) hdx
    obtain ⟨R3, u3⟩ := fm_hput R2 S.no (p := x) (o := exo x (T.ca c) (some dx)) (List.mem_cons_of_mem _ S.hx)
    refine go (F.hide dx) _ rfl rfl ⟨R3, S.no, S.sl, List.mem_cons_of_mem _ S.hx, .inr ⟨dx, List.mem_cons_self, hne, upd_same, ?_⟩, hle, rp1.mono (u2.trans u3)⟩
    rw [upd_ne hne, upd_same, hz, v0]
    simp
  · right
    obtain ⟨R3, u3⟩ := fm_hput R1 S.no (p := d) (o := exd d ((f, y) :: ((T.cf c).zip vs).reverse)) hd1
    refine ⟨d, _, e1 _ _ hd3, e1 _ _ hd4, ?_, go F _ rfl rfl ⟨R3, S.no, S.sl, S.hx, .inr ⟨d, hd1, hd2, ?_, ?_⟩, hle, rp1.mono u3⟩⟩
    · have := S.le
      simp
      omega
    · rw [upd_ne (Ne.symm hd2)]
      exact e1 _ _ hd3
    · rw [upd_same, hz]
end

/-- an exception's __init__ -/
abbrev Sx := List D → R (List D)
def spX (K : PySem.W.Frag) (T : Tb) (c n : Nat) (Ψ : Sx) : Sp := fun vs H Q E => vs.length = n + 1 ∧ ∃ (x : Addr) (ws : List V) (Hm V : Hp) (ds : List D), vs = .ref x :: ws ∧ H x = some (exo x (T.ca c) none) ∧ Ex Hm H ∧ Hm x = none ∧ Ex V Hm ∧ Reps K T V ws ds ∧ (match Ψ ds with
  | .ok l => ∀ d us H' V', CP V Hm V' H' → V' x = none → V' d = none → Hm d = none → d ≠ x → H' x = some (exo x (T.ca c) (some d)) → H' d = some (exd d ((T.cf c).zip us).reverse) → Reps K T V' us l → Q .non H'
  | _ => False)
def xinitR (g : En → R (List D)) (n : Nat) : Sx := fun ds => (g (SV.un :: enStart (n - 1) ds)).bind fun l => if l ≠ [] then .ok l else .bad
theorem fnX {P : Program} {w : World} {K : PySem.W.Frag} {mg : Str → Option Value} {base : Heap} {x qual : Str} {params : Arguments} {body : List Stmt} {scope : Scope} {dvs : List V} {kws : List (Str × V)} {f : Addr} {fd : FuncData} {N ps : List Str} {k m : Nat} {T : Tb} {g : En → R (List D)} (c : Nat)
    (Fd : FunD K x qual params body scope dvs kws f fd) (S : FnScope N ps scope) (hN : ps.length ≤ N.length) (hm : ps.length = m + 1)
    (hb : ∀ (cdv : Value) (A : Around) (outer : List Env) (s : Shared) (H : Hp) (E : XK), Room k (A.deeper (PyProof.Rows.envOfC qual scope s.heap.objs.size f cdv)) →
      QX (cxOf (L2.CX P w) P w K mg base N qual scope f cdv A outer s H E) T (fun cls d _ H => E cls d H) c 0 body g) :
    FnOk P w K mg base (L2.CX P w) (k + 1) f fd ps (spX K T c m (xinitR g N.length)) := by
  refine Fd.ok S (fun vs H Q E h => h.1.trans hm.symm) (fun cdv A outer s H vs Q E hr h => ?_)
  obtain ⟨hl, x, ws, Hm, V, ds, rfl, hx, hHm, hmx, hV, r, h⟩ := h
  obtain ⟨t, pt, ht⟩ := (hb cdv A outer s H E hr).ex
  refine ⟨t, pt, ?_⟩
  have hws : ws.length = m := by simpa using hl
  have hN1 : ws.length ≤ N.length - 1 := by omega
  have eqs : L2.start N (.ref x :: ws) = some (.ref x) :: (ws.map some ++ List.replicate (N.length - 1 - ws.length) none) := by
    unfold L2.start
    rw [List.map_cons, List.cons_append, List.length_cons, show N.length - (ws.length + 1) = N.length - 1 - ws.length by omega]
  have R0 : Fm K T ⟨Hm, V, [], x⟩ (enStart (N.length - 1) ds) (ws.map some ++ List.replicate (N.length - 1 - ws.length) none) Hm := fm_start (N.length - 1) hV r hN1
  have noow : ∀ {i : Nat} {y : SV}, (enStart (N.length - 1) ds)[i]? = some y → y = .un ∨ ∃ d f, y = .sh d f := fun {i y} hy => by
    unfold enStart at hy
    by_cases hi : i < ds.length
    · rw [List.getElem?_append_left (by simpa using hi), List.getElem?_map, List.getElem?_eq_getElem hi] at hy
      cases hy
      exact .inr ⟨_, _, rfl⟩
    · rw [List.getElem?_append_right (by simp; omega), List.getElem?_replicate] at hy
      split at hy
      · cases hy; exact .inl rfl
      · cases hy
  have nh : ∀ a, ¬ Hid ⟨Hm, V, [], x⟩ (enStart (N.length - 1) ds) (ws.map some ++ List.replicate (N.length - 1 - ws.length) none) a := fun a h => by
    rcases h with ⟨i, d, f, h1, h2⟩ | h
    · rcases noow h1 with z | ⟨_, _, z⟩ <;> cases z
    · cases h
  have hnoex : noEx (SV.un :: enStart (N.length - 1) ds) = true := by
    unfold noEx
    refine List.all_eq_true.mpr fun y hy => ?_
    rcases List.mem_cons.mp hy with z | z
    · subst z; rfl
    · obtain ⟨i, hi⟩ := List.mem_iff_getElem?.mp z
      rcases noow hi with z | ⟨_, _, z⟩ <;> subst z <;> rfl
  have Rf : Fm K T ⟨Hm, V, [x], x⟩ (.un :: enStart (N.length - 1) ds) (L2.start N (.ref x :: ws)) H := by
    rw [eqs]
    have hid : ∀ a, Hid ⟨Hm, V, [x], x⟩ (.un :: enStart (N.length - 1) ds) (some (.ref x) :: (ws.map some ++ List.replicate (N.length - 1 - ws.length) none)) a → a = x := fun a h => by
      rcases h with ⟨i, d, f, h1, h2⟩ | h
      · cases i with
        | zero => simp at h1
        | succ i =>
          have h1' : (enStart (N.length - 1) ds)[i]? = some (.ow d f) := by simpa using h1
          rcases noow h1' with z | ⟨_, _, z⟩ <;> cases z
      · exact List.mem_singleton.mp h
    have up : ∀ {b : Bool}, Ex (hpB ⟨Hm, V, [], x⟩ (enStart (N.length - 1) ds) (ws.map some ++ List.replicate (N.length - 1 - ws.length) none) Hm b) (hpB ⟨Hm, V, [x], x⟩ (.un :: enStart (N.length - 1) ds) (some (.ref x) :: (ws.map some ++ List.replicate (N.length - 1 - ws.length) none)) H b) := fun {b} a o e => by
      have q : Hm a = some o := R0.hH _ _ e
      have ne : a ≠ x := fun z => by rw [z, hmx] at q; cases q
      have nh2 : ¬ Hid ⟨Hm, V, [x], x⟩ (.un :: enStart (N.length - 1) ds) (some (.ref x) :: (ws.map some ++ List.replicate (N.length - 1 - ws.length) none)) a := fun z => ne (hid a z)
      cases b with
      | true =>
        have e : newB _ _ _ _ a = some o := e
        rw [newB_old (F := ⟨Hm, V, [], x⟩) q] at e
        cases e
      | false =>
        have e : visB _ _ _ _ a = some o := e
        rw [visB_old (F := ⟨Hm, V, [], x⟩) (nh a) q] at e
        exact (visB_old (F := ⟨Hm, V, [x], x⟩) nh2 q).trans e
    refine ⟨hHm, hV, by simp [R0.len], fun i y hy => ?_, fun i j p d d' f f' h1 h2 h3 h4 => ?_, fun a ha => ?_⟩
    · cases i with
      | zero =>
        simp at hy
        subst hy
        exact True.intro
      | succ i =>
        have hy' : (enStart (N.length - 1) ds)[i]? = some y := by simpa using hy
        have q := R0.sl i y hy'
        rcases noow hy' with z | ⟨d, f, z⟩
        · subst z; exact True.intro
        · subst z
          obtain ⟨v, q1, q2⟩ := q
          exact ⟨v, by simpa using q1, q2.mono up⟩
    · exfalso
      cases i with
      | zero => simp at h1
      | succ i =>
        have h1' : (enStart (N.length - 1) ds)[i]? = some (.ow d f) := by simpa using h1
        rcases noow h1' with z | ⟨_, _, z⟩ <;> cases z
    · rw [List.mem_singleton.mp ha]
      exact ⟨hmx, _, hx⟩
  refine ht x ⟨Hm, V, [x], x⟩ _ _ H [] [] ⟨Rf, hnoex, by rw [eqs]; rfl, List.mem_singleton.mpr rfl, .inl ⟨rfl, hx⟩, Nat.zero_le _, .nil⟩ rfl _ ?_
  unfold xinitR at h
  cases hg : g (.un :: enStart (N.length - 1) ds) with
  | exc c l => rw [hg] at h; exact h.elim
  | bad => rw [hg] at h; exact h.elim
  | ok l =>
  rw [hg, R.bind_ok] at h
  by_cases hl0 : l = []
  · rw [if_neg (by simpa using hl0)] at h; exact h.elim
  rw [if_pos hl0] at h
  intro F' H' vs' z1 z2 S'
  rw [List.nil_append] at S'
  rcases S'.ob with ⟨v0, _⟩ | ⟨d, y1, y2, y3, y4⟩
  · subst v0
    cases S'.rp
    exact absurd rfl hl0
  · have hx0 : F'.H0 x = none := (S'.fm.hid x S'.hx).1
    have hd0 : F'.H0 d = none := (S'.fm.hid d y1).1
    have hVx : V x = none := by
      cases q : V x with
      | none => rfl
      | some o => have := hV _ _ q; rw [hmx] at this; cases this
    have hmd : Hm d = none := by rw [← show F'.H0 = Hm from z1]; exact hd0
    have hVd : V d = none := by
      cases q : V d with
      | none => rfl
      | some o => have := hV _ _ q; rw [hmd] at this; cases this
    have eH : F'.H0 = Hm := z1
    have eV : F'.V0 = V := z2
    refine h d vs' H' (visB F' _ _ H') ⟨?_, ?_, S'.fm.vH, ?_⟩ (visB_hid (.inr S'.hx)) (visB_hid (.inr y1)) hmd y2 y3 y4 S'.rp
    · rw [← eH]; exact S'.fm.ex
    · intro a o e
      have q : F'.H0 a = some o := by rw [eH]; exact hV _ _ e
      have nhid : ¬ Hid F' (.un :: enStart (N.length - 1) ds) (L2.start N (.ref x :: ws)) a := fun z => by
        rcases z with ⟨i, d, f, h1, h2⟩ | z
        · cases i with
          | zero => simp at h1
          | succ i =>
            have h1' : (enStart (N.length - 1) ds)[i]? = some (.ow d f) := by simpa using h1
            rcases noow h1' with z | ⟨_, _, z⟩ <;> cases z
        · have := (S'.fm.hid a z).1
          rw [q] at this
          cases this
      rw [visB_old nhid q, eV]
      exact e
    · intro a o e
      by_cases z : Hid F' (.un :: enStart (N.length - 1) ds) (L2.start N (.ref x :: ws)) a
      · rw [visB_hid z] at e; cases e
      · cases q : F'.H0 a with
        | none => exact .inr (by rw [← eH]; exact q)
        | some u =>
          rw [visB_old z q, eV] at e
          exact .inl e
end Ev
set_option maxHeartbeats 1000000
/-! Ev12: raise, try .. except .. as. -/
namespace Ev
open PySem L2

/-- raise C(e, ..) -/
def sRaise (c : Nat) (Ψ : Sx) (n nf : Nat) (fs : En → R (List Vl)) : En → Out := fun ρ => (fs ρ).toOut ρ fun as => if as.length = n ∧ n ≤ 1000 then (match plain as with
  | some p => (match Ψ p.1 with
    | .ok l => if l.length = nf ∧ nf ≠ 0 then .exc ρ c l else .bad
    | _ => .bad)
  | none => .bad) else .bad
section
variable {X : Cx} {T : Tb} {W : WX} {k n nf : Nat} {f : Addr} {fd : FuncData} {ps : List Str} {x : Str} {p pos pos2 : Pos} {e : Expr} {es : List Expr} {fs : En → R (List Vl)}
theorem s_raise (c : Nat) {Ψ : Sx} (T1 : OexC X.K (T.ca c)) (iC : PySem.W.findIn X.K (.ref (T.ca c)) "__init__" = some (some (.ref f))) (tI : PySem.W.typeIn X.K (.ref f) = some (.type "function")) (hnf : (T.cf c).length = nf)
    (F1 : FnOk X.prog X.w X.K X.mg X.base (L2.CX X.prog X.w) k f fd ps (spX X.K T c n Ψ)) (hr : Room (k + 1) X.A) (hb : Binds X.K fd ps []) (hx : Passes (L2.CX X.prog X.w) X (fun _ _ _ => False)) (tk : Takes X W) (hc : X.calm = true)
    (ha : QA X T W (e :: es) fs) (hm : X.mg x = some (.ref (T.ca c))) (hg : Gl X x := by rfl) (hdb : (x == ("__debug__" : Str)) = false := by decide) (hs : starEach (e :: es) X.env = (false, eval e X.env) :: starEach es X.env := by rfl) (hpl : (backTo pos (starEach es X.env)).any (·.1) = false := by rfl) :
    QS X T W (.Raise (some (.Call (.Name x p) (e :: es) [] pos)) none pos2) (sRaise c Ψ n nf fs) := by
  obtain ⟨ta, pa, hfa⟩ := ha.ex
  refine ⟨⟨_, ps_raise hc tk (pmk_oex T1 iC tI F1 hr hb .nil hx hg hm pa hdb hs hpl), fun F ρ σ H Rf E h => ?_⟩⟩
  refine hfa F ρ σ H Rf _ (Pst.out Rf h fun as vs H1 _ e1 q1 h1 => ?_)
  have hn : as.length = n ∧ n ≤ 1000 := Decidable.byContradiction fun z => by rw [if_neg z] at h1; exact h1
  rw [if_pos hn] at h1
  cases hp : plain as with
  | none => rw [hp] at h1; exact h1.elim
  | some pq =>
  obtain ⟨ds, fl⟩ := pq
  rw [hp] at h1
  cases hΨ : Ψ ds with
  | exc c' l => rw [show (match (some (ds, fl) : Option (List D × Bool)) with
      | some p => (match Ψ p.1 with
        | .ok l => if l.length = nf ∧ nf ≠ 0 then Out.exc ρ c l else .bad
        | _ => .bad)
      | none => .bad) = Out.bad by simp only [hΨ]] at h1; exact h1.elim
  | bad => rw [show (match (some (ds, fl) : Option (List D × Bool)) with
      | some p => (match Ψ p.1 with
        | .ok l => if l.length = nf ∧ nf ≠ 0 then Out.exc ρ c l else .bad
        | _ => .bad)
      | none => .bad) = Out.bad by simp only [hΨ]] at h1; exact h1.elim
  | ok l =>
  rw [show (match (some (ds, fl) : Option (List D × Bool)) with
      | some p => (match Ψ p.1 with
        | .ok l => if l.length = nf ∧ nf ≠ 0 then Out.exc ρ c l else .bad
        | _ => .bad)
      | none => .bad) = (if l.length = nf ∧ nf ≠ 0 then Out.exc ρ c l else .bad) by simp only [hΨ]] at h1
  have hl : l.length = nf ∧ nf ≠ 0 := Decidable.byContradiction fun z => by rw [if_neg z] at h1; exact h1
  rw [if_pos hl] at h1
  have R1 := Rf.mono e1
  have l1 := RepVs.length q1
  refine ⟨by omega, fun a hna => ⟨by rw [List.append_nil, List.length_cons]; omega, a, vs, H1, visB F ρ σ H1, ds, by rw [List.append_nil], upd_same, Ex.new hna, hna, R1.vH, (plain_reps q1 hp).mono hp_vis, ?_⟩⟩
  rw [hΨ]
  intro d us H2 V2 cp vx vd hd0 hda h2a h2d rr
  refine ⟨rfl, d, _, h2a, h2d, hd0, ?_⟩
  have keep : ∀ {b o}, H2 b = some o → b ≠ a → b ≠ d → (upd (del H2 a) d (.xd ((T.cf c).zip us).reverse)) b = some o := fun {b o} h ha hd => by
    rw [upd_ne hd, del_ne ha]
    exact h
  have x3 : Ex H1 (upd (del H2 a) d (.xd ((T.cf c).zip us).reverse)) := fun b o z => keep (cp.h _ _ z) (fun y => by rw [y, hna] at z; cases z) (fun y => by rw [y, hd0] at z; cases z)
  have cp3 : CP (visB F ρ σ H1) H1 V2 (upd (del H2 a) d (.xd ((T.cf c).zip us).reverse)) := ⟨x3, cp.v, fun b o z => keep (cp.w _ _ z) (fun y => by rw [y, vx] at z; cases z) (fun y => by rw [y, vd] at z; cases z), cp.n⟩
  have v3 := vis_after R1 cp3
  have R3 := R1.mono x3
  refine h1 (some d) σ _ R3 ((vis_mono e1).trans (vis_mono x3)) (.inr ⟨d, us, ?_, rfl, upd_same, rr.mono v3, ?_⟩)
  · intro z
    rw [z] at hnf
    exact hl.2 hnf.symm
  · rw [rr.length, hl.1, hnf]
end

/-! ### try -/
def canS (K : PySem.W.Frag) (T : Tb) (W : WX) (g : En → Out) : TS := fun E σ H => ∃ F ρ, Fm K T F ρ σ H ∧ PO K T F W (visB F ρ σ H) (g ρ) E
theorem QSs.can {X : Cx} {T : Tb} {W : WX} {sts : List Stmt} {g : En → Out} (h : QSs X T W sts g) : PSs X sts (canS X.K T W g) := by
  obtain ⟨t, pt, ht⟩ := h.ex
  exact ⟨fun pins s σ H E I ⟨F, ρ, Rf, hq⟩ => pt.run pins s σ H E I (ht F ρ σ H Rf E hq)⟩
abbrev Tb.ex (T : Tb) (a : Addr) (cls : Value) (d : Option Addr) : Tb := { T with x := (a, cls, d) }
def outTry (i : Nat) (ρ : En) (o : Out) : Out := match o with
  | .next ρ2 => if noEx (ρ2.set i .un) = true then .next (ρ2.set i .un) else .bad
  | .ret a => .ret a
  | .brk ρ2 => if noEx (ρ2.set i .un) = true then .brk (ρ2.set i .un) else .bad
  | .cont ρ2 => if noEx (ρ2.set i .un) = true then .cont (ρ2.set i .un) else .bad
  | _ => .bad
def sTry (i : Nat) (hit : Nat → Option Bool) (g1 g2 : En → Out) : En → Out := fun ρ => match g1 ρ with
  | .exc ρ1 c l => (match hit c with
    | some true => if noEx ρ1 = true ∧ i < ρ1.length then outTry i ρ (g2 (ρ1.set i (.ex c l))) else .bad
    | some false => .exc ρ1 c l
    | none => .bad)
  | o => o
section
variable {X : Cx} {T : Tb} {W : WX} {x n : Str} {cv : Value} {i : Nat} {body suite : List Stmt} {b₀ : Stmt} {np pos pos' : Pos} {g1 g2 : En → Out} {hit : Nat → Option Bool}
theorem s_try (hit : Nat → Option Bool) (hh : ∀ c b, hit c = some b → PySem.W.exmOne X.K (.ref (T.ca c)) cv = some b) (hs : X.stack = X.env :: X.outer) (hf : X.env.frame = some X.env.locals) (hN : X.N.Nodup) (hi : X.N[i]? = some n) (hln : X.env.kindOf n = some .local) (hc : Names X x cv) (tk : Takes X W)
    (hb : ∀ (W : WX) (pn : List (Addr × Obj)) (xe : Value → Shared → Prop), Takes (X.tr pn xe) W → PassesOwn (model X.prog X.w) X.A X.env xe → QSs (X.tr pn xe) T W body g1)
    (hsu : ∀ (a : Addr) (oe : Obj) (cls : Value) (d : Option Addr) (pn : List (Addr × Obj)), Zc cls d oe → (∃ vs, oe.data = .fields vs) → QSs (X.suite a ((a, oe) :: pn)) (T.ex a cls d) W0 (b₀ :: suite) g2) :
    QS X T W (.Try body [.ExceptHandler (some (.Name x np)) (some n) (b₀ :: suite) pos'] [] [] pos) (sTry i hit g1 g2) := by
  refine ⟨⟨_, ps_try_as (tb := fun W => canS X.K T W g1) (ts := fun a cls d => canS X.K (T.ex a cls d) W0 g2) hs hf hN hi hln hc tk (fun W pn xe tk po => (hb W pn xe tk po).can) (fun a oe cls d pn hz hv => (hsu a oe cls d pn hz hv).can), fun F ρ σ H Rf E h => ?_⟩⟩
  refine ⟨F, ρ, Rf, ?_⟩
  unfold sTry at h
  cases ho : g1 ρ with
  | next ρ1 => rw [ho] at h; exact h
  | ret a => rw [ho] at h; exact h
  | brk ρ1 => rw [ho] at h; exact h
  | cont ρ1 => rw [ho] at h; exact h
  | bad => rw [ho] at h; exact h
  | exc ρ1 c l =>
  rw [ho] at h
  have h : PO X.K T F W (visB F ρ σ H) (match hit c with
    | some true => if noEx ρ1 = true ∧ i < ρ1.length then outTry i ρ (g2 (ρ1.set i (.ex c l))) else .bad
    | some false => .exc ρ1 c l
    | none => .bad) E := h
  intro dd σ1 H1 R1 e1 q1
  cases hk : hit c with
  | none => rw [hk] at h; exact h.elim
  | some b =>
  refine ⟨b, hh c b hk, fun hbt a hna => ?_, fun hbf => ?_⟩
  · subst hbt
    rw [hk] at h
    have hcnd : noEx ρ1 = true ∧ i < ρ1.length := Decidable.byContradiction fun z => by
      rw [show (match (some true : Option Bool) with
        | some true => if noEx ρ1 = true ∧ i < ρ1.length then outTry i ρ (g2 (ρ1.set i (.ex c l))) else .bad
        | some false => .exc ρ1 c l
        | none => .bad) = if noEx ρ1 = true ∧ i < ρ1.length then outTry i ρ (g2 (ρ1.set i (.ex c l))) else Out.bad from rfl, if_neg z] at h
      exact h
    have h : PO X.K T F W (visB F ρ σ H) (if noEx ρ1 = true ∧ i < ρ1.length then outTry i ρ (g2 (ρ1.set i (.ex c l))) else .bad) E := h
    rw [if_pos hcnd] at h
    have R2 : Fm X.K (T.ex a (.ref (T.ca c)) dd) F ρ1 σ1 H1 := Fm.tb (T := T) (T' := T.ex a (.ref (T.ca c)) dd) rfl rfl hcnd.1 R1
    have q2 : ExF X.K (T.ex a (.ref (T.ca c)) dd) (visB F ρ1 σ1 H1) H1 dd c l := ExF.tb (T := T) (T' := T.ex a (.ref (T.ca c)) dd) rfl rfl q1
    have i2 : i < σ1.length := by rw [← R1.len]; exact hcnd.2
    have hid : ∀ b, Hid F (ρ1.set i (.ex c l)) (σ1.set i (some (.ref a))) b → Hid F ρ1 σ1 b := fun b h => h.elim (fun h => (owned_set h hcnd.2 i2).elim .inl fun ⟨d, f, h1, _⟩ => nomatch h1) .inr
    obtain ⟨R3, e3⟩ := fm_set (x := .ex c l) (o := some (.ref a)) R2 hcnd.2 (fun _ _ z => nomatch z) ⟨rfl, rfl, q2.mono (vis_sub rfl rfl hid) (Ex.refl _)⟩
    refine ⟨F, _, R3, ?_⟩
    have goes : ∀ {ρ2 : En} {σ' : L2.St} {H' : Hp}, noEx (ρ2.set i .un) = true → Fm X.K (T.ex a (.ref (T.ca c)) dd) F ρ2 σ' H' → Ex (visB F (ρ1.set i (.ex c l)) (σ1.set i (some (.ref a))) H1) (visB F ρ2 σ' H') → i < ρ2.length →
        Fm X.K T F (ρ2.set i .un) (σ'.set i none) H' ∧ Ex (visB F ρ σ H) (visB F (ρ2.set i .un) (σ'.set i none) H') := fun {ρ2 σ' H'} hn R4 e4 hi4 => by
      obtain ⟨R5, e5⟩ := fm_set (x := .un) (o := none) R4 hi4 (fun _ _ z => nomatch z) True.intro
      exact ⟨Fm.tb (T := T.ex a (.ref (T.ca c)) dd) (T' := T) rfl rfl hn R5, ((e1.trans e3).trans e4).trans e5⟩
    cases hg : g2 (ρ1.set i (.ex c l)) with
    | next ρ2 =>
      rw [hg] at h
      unfold outTry at h
      by_cases hn : noEx (ρ2.set i .un) = true
      · have h : PO X.K T F W (visB F ρ σ H) (if noEx (ρ2.set i .un) = true then .next (ρ2.set i .un) else .bad) E := h
        rw [if_pos hn] at h
        intro σ' H' R4 e4
        by_cases hi4 : i < ρ2.length
        · obtain ⟨r, e⟩ := goes hn R4 e4 hi4
          exact h _ _ r e
        · have el : ρ2.set i .un = ρ2 := List.set_eq_of_length_le (by omega)
          have el2 : σ'.set i none = σ' := List.set_eq_of_length_le (by rw [← R4.len]; omega)
          rw [el] at h hn
          show E.nx (σ'.set i none) H'
          rw [el2]
          exact h _ _ (Fm.tb (T := T.ex a (.ref (T.ca c)) dd) (T' := T) rfl rfl hn R4) ((e1.trans e3).trans e4)
      · have h : PO X.K T F W (visB F ρ σ H) (if noEx (ρ2.set i .un) = true then .next (ρ2.set i .un) else .bad) E := h
        rw [if_neg hn] at h
        exact h.elim
    | brk ρ2 =>
      rw [hg] at h
      unfold outTry at h
      by_cases hn : noEx (ρ2.set i .un) = true
      · have h : PO X.K T F W (visB F ρ σ H) (if noEx (ρ2.set i .un) = true then .brk (ρ2.set i .un) else .bad) E := h
        rw [if_pos hn] at h
        intro σ' H' R4 e4
        by_cases hi4 : i < ρ2.length
        · obtain ⟨r, e⟩ := goes hn R4 e4 hi4
          exact h _ _ r e
        · have el : ρ2.set i .un = ρ2 := List.set_eq_of_length_le (by omega)
          have el2 : σ'.set i none = σ' := List.set_eq_of_length_le (by rw [← R4.len]; omega)
          rw [el] at h hn
          show E.bk (σ'.set i none) H'
          rw [el2]
          exact h _ _ (Fm.tb (T := T.ex a (.ref (T.ca c)) dd) (T' := T) rfl rfl hn R4) ((e1.trans e3).trans e4)
      · have h : PO X.K T F W (visB F ρ σ H) (if noEx (ρ2.set i .un) = true then .brk (ρ2.set i .un) else .bad) E := h
        rw [if_neg hn] at h
        exact h.elim
    | cont ρ2 =>
      rw [hg] at h
      unfold outTry at h
      by_cases hn : noEx (ρ2.set i .un) = true
      · have h : PO X.K T F W (visB F ρ σ H) (if noEx (ρ2.set i .un) = true then .cont (ρ2.set i .un) else .bad) E := h
        rw [if_pos hn] at h
        intro σ' H' R4 e4
        by_cases hi4 : i < ρ2.length
        · obtain ⟨r, e⟩ := goes hn R4 e4 hi4
          exact h _ _ r e
        · have el : ρ2.set i .un = ρ2 := List.set_eq_of_length_le (by omega)
          have el2 : σ'.set i none = σ' := List.set_eq_of_length_le (by rw [← R4.len]; omega)
          rw [el] at h hn
          show E.ct (σ'.set i none) H'
          rw [el2]
          exact h _ _ (Fm.tb (T := T.ex a (.ref (T.ca c)) dd) (T' := T) rfl rfl hn R4) ((e1.trans e3).trans e4)
      · have h : PO X.K T F W (visB F ρ σ H) (if noEx (ρ2.set i .un) = true then .cont (ρ2.set i .un) else .bad) E := h
        rw [if_neg hn] at h
        exact h.elim
    | ret a2 =>
      rw [hg] at h
      exact fun v H' e r => h v H' e (Rep.tb (T := T.ex a (.ref (T.ca c)) dd) (T' := T) rfl rfl r)
    | exc ρ2 c2 l2 => rw [hg] at h; exact h.elim
    | bad => rw [hg] at h; exact h.elim
  · subst hbf
    rw [hk] at h
    exact h dd σ1 H1 R1 e1 q1
end

/-! ### in a suite -/
theorem nodup_rev_lookup : ∀ {N : List Str} {vs : List V} {k : Nat} {f : Str} {v : V}, N.Nodup → N[k]? = some f → vs[k]? = some v → (N.zip vs).reverse.lookup f = some v
  | [], _, _, _, _, _, h, _ => by simp at h
  | _ :: _, [], _, _, _, _, _, h => by simp at h
  | n :: N, w :: vs, 0, f, v, hn, h1, h2 => by
    simp at h1 h2
    subst h1 h2
    rw [List.zip_cons_cons, List.reverse_cons, List.lookup_append]
    have e : (N.zip vs).reverse.lookup n = none := by
      rw [List.lookup_eq_none_iff]
      intro p hp
      have hp := List.mem_reverse.mp hp
      have := (List.of_mem_zip hp).1
      have hnd := (List.nodup_cons.mp hn).1
      have : n ≠ p.1 := fun z => hnd (by rw [z]; exact this)
      simpa using this
    rw [e]
    simp
  | n :: N, w :: vs, k + 1, f, v, hn, h1, h2 => by
    rw [List.zip_cons_cons, List.reverse_cons, List.lookup_append, nodup_rev_lookup (List.nodup_cons.mp hn).2 (by simpa using h1) (by simpa using h2)]
    rfl
/-- e.f, e the caught exception, of the class c -/
def eXf (i c k : Nat) : En → R Vl := fun ρ => match ρ[i]? with
  | some (.ex c' l) => if c' = c then ofO l[k]? fun d => pl d false else .bad
  | _ => .bad
/-- isinstance(e, C) -/
def eXis (i : Nat) (tab : Nat → Option Bool) : En → R Vl := fun ρ => match ρ[i]? with
  | some (.ex c' _) => ofO (tab c') fun b => sc (.bl b)
  | _ => .bad
/-- what the class of a caught exception must say -/
structure ExcK (K : PySem.W.Frag) (C : Addr) : Prop where
  hc : (PySem.W.clsIn K C).isSome = true
  ga : PySem.W.findIn K (.ref C) "__getattribute__" = some (some (.builtin "BaseException.__getattribute__"))
  gt : PySem.W.findIn K (.ref C) "__getattr__" = some none
  su : PySem.W.subIn K (.ref C) (.type "BaseException") = some true
  ha : PySem.W.findIn K (.ref C) "__class__" = some (some (.builtin "object.__class__"))
  hn : PySem.W.specialIn K (.builtin "object.__class__") "__get__" = some (some (.builtin "getset_descriptor.__get__"))
  tk : PySem.W.takesIn K (.builtin "object.__class__") = some true
  hm : PySem.W.mroIn K C (.type "object") = some true
def rIsX (K : PySem.W.Frag) (C a : Addr) (d : Option Addr) : List V → Hp → VK → Prop := fun xs H Q => ∃ (c : V) (cv : Value) (b : Bool), xs = [.ref a, c] ∧ ClsV c cv ∧ (d = none ∨ ∃ dd fs, d = some dd ∧ H dd = some (.xd fs)) ∧ PySem.W.kitOne K (.ref C) cv = some b ∧ Q (.bl b) H
theorem call_isX {X : Cx} {a C : Addr} {d : Option Addr} {oe : Obj} {pn : List (Addr × Obj)} (E : ExcK X.K C) (hz : Zc (.ref C) d oe) (hf : ∃ vs, oe.data = .fields vs) : CallR (X.suite a ((a, oe) :: pn)) (.builtin "isinstance") (rIsX X.K C a d) := by
  intro pins s σ H xs us Q I r h
  obtain ⟨c, cv, b, rfl, hcv, hd, e, q⟩ := h
  obtain ⟨u1, u2, rfl, r1, r2⟩ := vals2 r
  obtain rfl : u1 = Value.ref a := r1
  have e2 := hcv.eq r2
  subst e2
  obtain ⟨hget, _⟩ := I.pin (a, oe) (List.mem_append.mpr (.inl List.mem_cons_self))
  obtain ⟨vs, hv⟩ := hf
  have nc : PySem.W.notCls oe = true := by unfold PySem.W.notCls; rw [hv] <;> rfl
  rcases hd with hd | ⟨dd, fs, hd, hx⟩
  · have J : PySem.W.InstAt s.heap a oe C none := ⟨hget, hz.1, nc, by rw [hz.2, hd]; trivial⟩
    exact PySem.W.kia_one (PySem.W.kitx_exc E.hc E.ga E.gt E.su E.ha E.hn E.tk E.hm) I.kIn J e (fun z => nomatch z) fun tk => ⟨.bl b, H, I.tok tk, rfl, q⟩
  · have ok : ObjOk X.prog X.w H s.heap dd (.xd fs) := I.hok dd _ hx
    obtain ⟨mA, hns, _⟩ := ok
    obtain ⟨od, ho, _⟩ := lookIn_ns hns
    have J : PySem.W.InstAt s.heap a oe C (some od) := ⟨hget, hz.1, nc, by rw [hz.2, hd]; exact ho⟩
    exact PySem.W.kia_one (PySem.W.kitx_exc E.hc E.ga E.gt E.su E.ha E.hn E.tk E.hm) I.kIn J e (fun z => nomatch z) fun tk => ⟨.bl b, H, I.tok tk, rfl, q⟩
section
variable {X : Cx} {T : Tb} {W : WX} {a : Addr} {oe : Obj} {cls : Value} {d : Option Addr} {pn : List (Addr × Obj)} {n f : Str} {p pos : Pos}
theorem q_xf (i c k : Nat) (hx : XfC X.K (T.ca c)) (hno : PySem.W.findIn X.K (.ref (T.ca c)) f = some none) (hnd : (T.cf c).Nodup) (hk : (T.cf c)[k]? = some f) (hz : Zc cls d oe) (hf : ∃ vs, oe.data = .fields vs) (hN : X.N[i]? = some n)
    (hv : Vis X.env.scope n := by first | exact Or.inl rfl | exact Or.inr (Or.inl rfl) | exact Or.inr (Or.inr rfl)) (hd : (n == ("__debug__" : Str)) = false := by decide) (hcd : (n == ("__classdict__" : Str)) = false := by decide)
    (hb : attributeBase (.Name n p) f X.env (eval (.Name n p) X.env) = eval (.Name n p) X.env := by rfl) :
    QE (X.suite a ((a, oe) :: pn)) (T.ex a cls d) W (.Attribute (.Name n p) f pos) (eXf i c k) := by
  have pv : PE (X.suite a ((a, oe) :: pn)) (.Name n p) (tVar i) := pe_var (X := X.suite a ((a, oe) :: pn)) hN hv hd hcd
  refine ⟨⟨_, pe_xf hx hno hz hf pv hb, fun F ρ σ H Rf Q h => ?_⟩⟩
  unfold eXf at h
  cases hi : ρ[i]? with
  | none => rw [hi] at h; exact h.elim
  | some y =>
  rw [hi] at h
  have q := Rf.sl i y hi
  cases y with
  | un => exact h.elim
  | sh _ _ => exact h.elim
  | ow _ _ => exact h.elim
  | ex c' l =>
  by_cases hc : c' = c
  · subst hc
    have h : Pst ⟨X.K, T.ex a cls d, F, ρ, σ, W⟩ (relE ⟨X.K, T.ex a cls d, F, ρ, σ, W⟩) (if c' = c' then ofO l[k]? fun d => pl d false else .bad) H Q := h
    rw [if_pos rfl] at h
    obtain ⟨dv, ed, h⟩ := Pst.ofO h
    obtain ⟨q1, q2, q3⟩ := q
    refine ⟨.ref a, q1, rfl, q2, ?_⟩
    rcases q3 with ⟨z, _, _⟩ | ⟨dd, vs, z0, z1, z2, z3, z4⟩
    · rw [show (T.ex a cls d).cf = T.cf from rfl] at z
      rw [z] at hk
      simp at hk
    · obtain ⟨v, ev, rv⟩ := z3.get ed
      exact ⟨dd, _, v, z1, z2, nodup_rev_lookup hnd hk ev, pl_put h rv⟩
  · have h : Pst ⟨X.K, T.ex a cls d, F, ρ, σ, W⟩ (relE ⟨X.K, T.ex a cls d, F, ρ, σ, W⟩) (if c' = c then ofO l[k]? fun d => pl d false else .bad) H Q := h
    rw [if_neg hc] at h
    exact h.elim
theorem q_xis (i c : Nat) {cv : V} {u : Value} {ce : Expr} (tab : Nat → Option Bool) (ht : ∀ c' b, tab c' = some b → c' = c ∧ PySem.W.kitOne X.K (.ref (T.ca c)) u = some b) (hE : ExcK X.K (T.ca c)) (k : ClsV cv u) (hc : PE (X.suite a ((a, oe) :: pn)) ce (tC cv)) (hz : Zc cls d oe) (hf : ∃ vs, oe.data = .fields vs) (hN : X.N[i]? = some n)
    (hm : X.mg "isinstance" = none) (hv : bootBuiltins "isinstance" = some (.builtin "isinstance")) (hg : Gl X "isinstance" := by rfl)
    (hvi : Vis X.env.scope n := by first | exact Or.inl rfl | exact Or.inr (Or.inl rfl) | exact Or.inr (Or.inr rfl)) (hd : (n == ("__debug__" : Str)) = false := by decide) (hcd : (n == ("__classdict__" : Str)) = false := by decide)
    (s1 : starEach [.Name n p, ce] X.env = (false, eval (.Name n p) X.env) :: starEach [ce] X.env := by rfl) (s2 : starEach [ce] X.env = (false, eval ce X.env) :: starEach [] X.env := by rfl) (hpl : (backTo pos (starEach [ce] X.env)).any (·.1) = false := by rfl) {p3 : Pos} :
    QE (X.suite a ((a, oe) :: pn)) (T.ex a cls d) W (.Call (.Name "isinstance" p3) [.Name n p, ce] [] pos) (eXis i tab) := by
  have pv : PE (X.suite a ((a, oe) :: pn)) (.Name n p) (tVar i) := pe_var (X := X.suite a ((a, oe) :: pn)) hN hvi hd hcd
  by_cases hcls : cls = .ref (T.ca c)
  · subst hcls
    refine ⟨⟨_, pe_callB (X := X.suite a ((a, oe) :: pn)) (call_isX hE hz hf) hg hm hv (pa_cons pv (pa_cons hc pa_nil s2) s1) (by decide) (by decide) s1 hpl, fun F ρ σ H Rf Q h => ?_⟩⟩
    unfold eXis at h
    cases hi : ρ[i]? with
    | none => rw [hi] at h; exact h.elim
    | some y =>
    rw [hi] at h
    have q := Rf.sl i y hi
    cases y with
    | un => exact h.elim
    | sh _ _ => exact h.elim
    | ow _ _ => exact h.elim
    | ex c' l =>
    obtain ⟨b, eb, h⟩ := Pst.ofO h
    obtain ⟨rfl, hk⟩ := ht c' b eb
    obtain ⟨q1, q2, q3⟩ := q
    refine ⟨.ref a, q1, cv, u, b, rfl, k, ?_, hk, h _ H (Ex.refl _) (Rep.bl b)⟩
    rcases q3 with ⟨_, z, _⟩ | ⟨dd, vs, z0, z1, z2, _⟩
    · exact .inl z
    · exact .inr ⟨dd, _, z1, z2⟩
  · refine ⟨⟨fun _ _ _ => False, ⟨fun _ _ _ _ _ _ h => h.elim⟩, fun F ρ σ H Rf Q h => ?_⟩⟩
    unfold eXis at h
    cases hi : ρ[i]? with
    | none => rw [hi] at h; exact h.elim
    | some y =>
    rw [hi] at h
    have q := Rf.sl i y hi
    cases y with
    | un => exact h.elim
    | sh _ _ => exact h.elim
    | ow _ _ => exact h.elim
    | ex c' l =>
    obtain ⟨b, eb, h⟩ := Pst.ofO h
    obtain ⟨rfl, hk⟩ := ht c' b eb
    exact hcls q.2.1
end
end Ev
set_option maxHeartbeats 1000000
/-! Ev13: what the head tells; defs by their names. -/
namespace Ev
open PySem L2

/-! ### the head's tests -/
abbrev FB := PySem.W.Frag → Bool
def oexB (C : Addr) : FB := fun K => (match K.lookup C with
  | some ⟨.type "type", _, .cls cd, sl⟩ => (match cd.mro, sl.toList with
    | .ref C' :: bm, [_, _, _, _, some (.builtin n), _] => decide (C' = C) && (decide (n = "ValueError.__new__") && (!cd.hasDel && (cd.hasDict && PySem.HandSPX.refsVE bm)))
    | _, _ => false)
  | _ => false) && (He.eqO (PySem.W.findIn K (.ref C) "__setattr__") (some (some (.builtin "object.__setattr__"))) && (decide (PySem.W.subIn K (.ref C) (.type "BaseException") = some true) && (decide (PySem.W.typeIn K (.ref C) = some (.type "type")) && PySem.W.keepIn K (.ref C))))
theorem oexB_ok {K : PySem.W.Frag} {C : Addr} (h : oexB C K = true) : OexC K C := by
  obtain ⟨h1, h⟩ := Bool.and_eq_true_iff.mp h
  obtain ⟨h2, h⟩ := Bool.and_eq_true_iff.mp h
  obtain ⟨h3, h⟩ := Bool.and_eq_true_iff.mp h
  obtain ⟨h4, h5⟩ := Bool.and_eq_true_iff.mp h
  refine ⟨?_, He.eqO_ok h2, of_decide_eq_true h3, of_decide_eq_true h4, h5⟩
  split at h1
  · rename_i dd cd sl ho
    split at h1
    · rename_i C' bm k0 k1 k2 k3 n k5 hm hs
      simp only [Bool.and_eq_true, decide_eq_true_eq, Bool.not_eq_true'] at h1
      obtain ⟨rfl, rfl, hdel, hdic, hr⟩ := h1
      obtain ⟨nm, bs, mro, ns, qn, hd, sn, sub, ab, col, del⟩ := cd
      dsimp only at hm hdel hdic
      subst hm hdel hdic
      have hsl : sl = #[k0, k1, k2, k3, some (.builtin "ValueError.__new__"), k5] := by
        obtain ⟨l⟩ := sl
        simp only at hs
        rw [hs]
      subst hsl
      exact ⟨nm, qn, ns, bs, bm, sn, sub, ab, col, dd, k0, k1, k2, k3, k5, ho, hr⟩
    · cases h1
  · cases h1
def xinB (C f : Addr) : FB := fun K => He.eqO (PySem.W.findIn K (.ref C) "__init__") (some (some (.ref f))) && decide (PySem.W.typeIn K (.ref f) = some (.type "function"))
theorem xinB_ok {K : PySem.W.Frag} {C f : Addr} (h : xinB C f K = true) : PySem.W.findIn K (.ref C) "__init__" = some (some (.ref f)) ∧ PySem.W.typeIn K (.ref f) = some (.type "function") := by
  obtain ⟨h1, h2⟩ := Bool.and_eq_true_iff.mp h
  exact ⟨He.eqO_ok h1, of_decide_eq_true h2⟩
/-- the slots "__class__" of an own class -/
def clsB (C : Addr) : FB := fun K => He.eqO (PySem.W.findIn K (.ref C) "__class__") (some (some (.builtin "object.__class__"))) && (decide (PySem.W.specialIn K (.builtin "object.__class__") "__get__" = some (some (.builtin "getset_descriptor.__get__"))) &&
  (decide (PySem.W.takesIn K (.builtin "object.__class__") = some true) && decide (PySem.W.mroIn K C (.type "object") = some true)))
theorem owcB_ok {K : PySem.W.Frag} {C : Addr} (c : Cls K C) (h : clsB C K = true) : OwC K C := by
  obtain ⟨h1, h⟩ := Bool.and_eq_true_iff.mp h
  obtain ⟨h2, h⟩ := Bool.and_eq_true_iff.mp h
  obtain ⟨h3, h4⟩ := Bool.and_eq_true_iff.mp h
  exact ⟨c, He.eqO_ok h1, of_decide_eq_true h2, of_decide_eq_true h3, of_decide_eq_true h4⟩
def exkB (C : Addr) : FB := fun K => (PySem.W.clsIn K C).isSome && (xfB K C && clsB C K)
theorem exkB_ok {K : PySem.W.Frag} {C : Addr} (h : exkB C K = true) : ExcK K C ∧ XfC K C := by
  obtain ⟨h1, h⟩ := Bool.and_eq_true_iff.mp h
  obtain ⟨h2, h⟩ := Bool.and_eq_true_iff.mp h
  have x := xfB_ok h2
  obtain ⟨h3, h⟩ := Bool.and_eq_true_iff.mp h
  obtain ⟨h4, h⟩ := Bool.and_eq_true_iff.mp h
  obtain ⟨h5, h6⟩ := Bool.and_eq_true_iff.mp h
  exact ⟨⟨h1, x.ga, x.gg, x.exC, He.eqO_ok h3, of_decide_eq_true h4, of_decide_eq_true h5, of_decide_eq_true h6⟩, x⟩
/-- isinstance of an own class's instance -/
def kitB1 (C : Addr) (us : List Value) (b : Bool) : FB := fun K => decide (PySem.W.kitAny K (.ref C) us = some b)
def exmB (C : Addr) (u : Value) (b : Bool) : FB := fun K => decide (PySem.W.exmOne K (.ref C) u = some b)
/-! ### the Hook -/
def obsX (fb : List FB) (fn : List He.DefD) (K : PySem.W.Frag) : He.AlD := let z := He.obsD [] fn K
  ((fb.all fun f => f K) && z.1, z.2)
def obsXG (n : Nat) (fb : List FB) (fn : List He.DefD) (g : Addr → Option Obj) : He.AlD := obsX fb fn (He.frG g (He.asD g n))
def SaysX (fb : List FB) (fn : List He.DefD) (K : PySem.W.Frag) : Prop := obsX fb fn K = He.valD fn
def hookX (n : Nat) (fb : List FB) (fn : List He.DefD) : PySem.W.Hook where
  α := He.AlD
  obs s := obsXG n fb fn s.heap.get?
  val _ := He.valD fn
  says _ h := ∃ K : PySem.W.Frag, K.In h ∧ SaysX fb fn K
  of _ _ e := ⟨_, He.frG_in, e⟩
  keeps _ _ _ := fun ⟨K, hK, c⟩ k => ⟨K, hK.keeps k, c⟩
theorem obsXG_eq {n : Nat} {fb : List FB} {fn : List He.DefD} {g : Addr → Option Obj} {s : Shared} (h : ∀ a, g a = s.heap.get? a) : obsXG n fb fn g = (hookX n fb fn).obs s := by
  have e : g = s.heap.get? := funext h
  rw [e]
  rfl
theorem SaysX.fact {fb : List FB} {fn : List He.DefD} {K : PySem.W.Frag} (c : SaysX fb fn K) (i : Nat) {f : FB} (h : fb[i]? = some f := by rfl) : f K = true := by
  have e : ((fb.all fun f => f K) && (He.obsD [] fn K).1) = true := congrArg (fun z : He.AlD => z.1) c
  exact List.all_eq_true.mp (Bool.and_eq_true_iff.mp e).1 f (List.mem_of_getElem? h)
theorem SaysX.says {fb : List FB} {fn : List He.DefD} {K : PySem.W.Frag} (c : SaysX fb fn K) : He.SaysD [] fn K := by
  have e : ((fb.all fun f => f K) && (He.obsD [] fn K).1) = true := congrArg (fun z : He.AlD => z.1) c
  have e2 : (He.obsD [] fn K).2 = fn.map He.DefD.val := congrArg (fun z : He.AlD => z.2) c
  exact Prod.ext (Bool.and_eq_true_iff.mp e).2 e2

/-! ### defs as the walk needs them -/
/-- a def that keeps sp, called with the values dvs added -/
structure DF (K : PySem.W.Frag) (mg : Str → Option Value) (f : Addr) (ps : List Str) (dvs : List V) (k : Nat) (sp : Sp) : Prop where
  ex : ∃ (fd : FuncData) (us : List Value), PySem.W.keepIn K (.ref f) = true ∧ Binds K fd ps us ∧ Vals dvs us ∧ ∀ (P : Program) (w : World) (base : Heap), FnOk P w K mg base (L2.CX P w) k f fd ps sp
/-- .. called with np values, the keywords ks behind them -/
structure DK (K : PySem.W.Frag) (mg : Str → Option Value) (f : Addr) (ps : List Str) (np : Nat) (ks : List Str) (k : Nat) (sp : Sp) : Prop where
  ex : ∃ fd : FuncData, PySem.W.keepIn K (.ref f) = true ∧ KBn K fd ps np ks (fun us ws => us ++ ws) (fun vs zs => vs ++ zs) ∧ ∀ (P : Program) (w : World) (base : Heap), FnOk P w K mg base (L2.CX P w) k f fd ps sp
section
variable {X : Cx} {T : Tb} {W : WX} {k kb n np : Nat} {f : Addr} {ps ks : List Str} {dvs : List V} {dds : List D} {x m : Str} {p pos pos2 apos : Pos} {e o : Expr} {es : List Expr} {kws : List Keyword} {Φ : Sm} {fs fz : En → R (List Vl)} {fo : En → R Vl}
theorem d_call (D : DF X.K X.mg f ps dvs k (spD X.K T n Φ)) (hm : X.mg x = some (.ref f)) (hdd : ∀ G, Reps X.K T G dvs dds) (tk : Takes X W) (hr : Room kb X.A) (ha : QA X T W (e :: es) fs) (hle : k ≤ kb := by decide)
    (hg : Gl X x := by rfl) (hdb : NotDbg x := by decide) (he : ArgsPlain X e es := by rfl) (hpl : NoStar X pos es := by rfl) :
    QE X T W (.Call (.Name x p) (e :: es) [] pos) (eCall Φ n dds fs) := by
  obtain ⟨fd, us, h1, h2, h3, h4⟩ := D.ex
  exact q_call (h4 X.prog X.w X.base) (hr.mono hle) hm h1 h2 h3 hdd tk ha hg hdb he hpl
theorem d_callK (D : DK X.K X.mg f ps np ks k (spD X.K T n Φ)) (hn : np + ks.length = n) (hm : X.mg x = some (.ref f)) (tk : Takes X W) (hr : Room kb X.A) (ha : QA X T W (e :: es) fs) (hkw : QK X T W kws fz) (hle : k ≤ kb := by decide)
    (hg : Gl X x := by rfl) (hall : (backToKw pos (keywordEach kws X.env)).all (·.1.isSome) = true := by rfl) (hks : (backToKw pos (keywordEach kws X.env)).filterMap (·.1) = ks := by rfl)
    (hdb : NotDbg x := by decide) (he : ArgsPlain X e es := by rfl)
    (hpl : NoStarKw X pos (e :: es) kws := by rfl) :
    QE X T W (.Call (.Name x p) (e :: es) kws pos) (eCallK Φ np ks.length fs fz) := by
  obtain ⟨fd, h1, h2, h4⟩ := D.ex
  exact q_callK (h4 X.prog X.w X.base) (hr.mono hle) hm h1 h2 hn tk ha hkw hg hall hks hdb he hpl
theorem d_meth (c : Nat) {pl : Sem Bool} (D : DF X.K X.mg f ps dvs k (spD X.K T n Φ)) (cl : Cls X.K (T.ca c)) (hno : m ∉ T.cf c) (hm : Meth X.K (T.ca c) m f) (hdd : ∀ G, Reps X.K T G dvs dds) (tk : Takes X W) (hr : Room kb X.A) (ho : QE X T W o fo) (ha : QA X T W (e :: es) fs) (hle : k ≤ kb := by decide)
    (hst : ArgsPlain X e es := by rfl) (hpl : NoStar X pos es := by rfl)
    (ht : MethRead X o m apos pos (e :: es) pl := by rfl) :
    QE X T W (.Call (.Attribute o m apos) (e :: es) [] pos) (eMeth c Φ n dds fo fs) := by
  obtain ⟨fd, us, h1, h2, h3, h4⟩ := D.ex
  exact q_meth c ho cl hno hm (h4 X.prog X.w X.base) (hr.mono hle) h2 h3 hdd tk ha hst hpl ht
theorem d_meth0 (c : Nat) {pl : Sem Bool} (D : DF X.K X.mg f ps dvs k (spD X.K T n Φ)) (cl : Cls X.K (T.ca c)) (hno : m ∉ T.cf c) (hm : Meth X.K (T.ca c) m f) (hdd : ∀ G, Reps X.K T G dvs dds) (tk : Takes X W) (hr : Room kb X.A) (ho : QE X T W o fo) (hle : k ≤ kb := by decide)
    (ht : MethRead X o m apos pos [] pl := by rfl) :
    QE X T W (.Call (.Attribute o m apos) [] [] pos) (eMeth c Φ n dds fo aNil) := by
  obtain ⟨fd, us, h1, h2, h3, h4⟩ := D.ex
  exact q_meth0 c ho cl hno hm (h4 X.prog X.w X.base) (hr.mono hle) h2 h3 hdd tk ht
theorem d_new (c : Nat) {Ψ : Sf} (D : DF X.K X.mg f ps dvs k (spI X.K T c n Ψ)) (M : Mk X.K (T.ca c) f) (hm : X.mg x = some (.ref (T.ca c))) (hdd : ∀ G, Reps X.K T G dvs dds) (tk : Takes X W) (hr : Room kb X.A) (ha : QA X T W (e :: es) fs) (hle : k + 1 ≤ kb := by decide)
    (hg : Gl X x := by rfl) (hdb : NotDbg x := by decide) (he : ArgsPlain X e es := by rfl) (hpl : NoStar X pos es := by rfl) :
    QE X T W (.Call (.Name x p) (e :: es) [] pos) (eNew c Ψ n dds fs) := by
  obtain ⟨fd, us, h1, h2, h3, h4⟩ := D.ex
  exact q_new c M (h4 X.prog X.w X.base) (hr.mono hle) hm h2 h3 hdd tk ha hg hdb he hpl
theorem d_raise (c : Nat) {Ψ : Sx} (nf : Nat) (D : DF X.K X.mg f ps [] k (spX X.K T c n Ψ)) (T1 : OexC X.K (T.ca c)) (iC : PySem.W.findIn X.K (.ref (T.ca c)) "__init__" = some (some (.ref f)) ∧ PySem.W.typeIn X.K (.ref f) = some (.type "function")) (hm : X.mg x = some (.ref (T.ca c))) (hnf : (T.cf c).length = nf)
    (hx : Passes (L2.CX X.prog X.w) X (fun _ _ _ => False)) (tk : Takes X W) (hr : Room kb X.A) (hc : X.calm = true) (ha : QA X T W (e :: es) fs) (hle : k + 1 ≤ kb := by decide)
    (hg : Gl X x := by rfl) (hdb : NotDbg x := by decide) (hs : starEach (e :: es) X.env = (false, eval e X.env) :: starEach es X.env := by rfl) (hpl : NoStar X pos es := by rfl) :
    QS X T W (.Raise (some (.Call (.Name x p) (e :: es) [] pos)) none pos2) (sRaise c Ψ n nf fs) := by
  obtain ⟨fd, us, h1, h2, h3, h4⟩ := D.ex
  cases h3
  exact s_raise c T1 iC.1 iC.2 hnf (h4 X.prog X.w X.base) (hr.mono hle) h2 hx tk hc ha hm hg hdb hs hpl
end
end Ev
set_option maxHeartbeats 1000000
/-! Ev14: one rule for all kinds of values. -/
namespace Ev
open PySem L2

def orR (a b : R Vl) : R Vl := match a with
  | .bad => b
  | r => r
section
variable {X : Cx} {T : Tb} {W : WX} {a b e : Expr} {f f1 f2 : En → R Vl} {pos p : Pos}
theorem OpR.or {op : Value → Value → Sem Value} {r1 r2 : R2} (h1 : OpR X op r1) (h2 : OpR X op r2) : OpR X op (fun x y H Q => r1 x y H Q ∨ r2 x y H Q) := fun pins s σ H x y v u Q I rx ry h => h.elim (h1 pins s σ H x y v u Q I rx ry) (h2 pins s σ H x y v u Q I rx ry)
theorem Snd.or {K : PySem.W.Frag} {r1 r2 : R2} {g1 g2 : Vl → Vl → R Vl} (h1 : Snd K T r1 g1) (h2 : Snd K T r2 g2) : Snd K T (fun x y H Q => r1 x y H Q ∨ r2 x y H Q) (fun x y => orR (g1 x y) (g2 x y)) := fun F ρ σ W Hs H vx vy x y Q Rf q1 q2 hp => by
  change Pst _ _ (orR (g1 x y) (g2 x y)) H Q at hp
  cases hg : g1 x y with
  | bad => rw [hg] at hp; exact .inr (h2 F ρ σ W Hs H vx vy x y Q Rf q1 q2 hp)
  | ok v => rw [hg] at hp; exact .inl (h1 F ρ σ W Hs H vx vy x y Q Rf q1 q2 (by rw [hg]; exact hp))
  | exc c l => rw [hg] at hp; exact .inl (h1 F ρ σ W Hs H vx vy x y Q Rf q1 q2 (by rw [hg]; exact hp))
theorem SndC.or {K : PySem.W.Frag} {r1 r2 : R2} {g1 g2 : Vl → Vl → Option Bool} (h1 : SndC K T r1 g1) (h2 : SndC K T r2 g2) : SndC K T (fun x y H Q => r1 x y H Q ∨ r2 x y H Q) (fun x y => (g1 x y).or (g2 x y)) := fun F ρ σ Hs H vx vy x y Q k Rf q1 q2 e hk => by
  cases hg : g1 x y with
  | none =>
    simp only [hg, Option.none_or] at e
    exact .inr (h2 F ρ σ Hs H vx vy x y Q k Rf q1 q2 e hk)
  | some v =>
    simp only [hg, Option.some_or] at e
    exact .inl (h1 F ρ σ Hs H vx vy x y Q k Rf q1 q2 (by rw [hg]; exact e) hk)
theorem Snd1.or {K : PySem.W.Frag} {r1 r2 : List V → Hp → VK → Prop} {g1 g2 : Vl → R Vl} (h1 : Snd1 K T r1 g1) (h2 : Snd1 K T r2 g2) : Snd1 K T (fun x H Q => r1 x H Q ∨ r2 x H Q) (fun x => orR (g1 x) (g2 x)) := fun F ρ σ W Hs H vx x Q Rf q1 hp => by
  change Pst _ _ (orR (g1 x) (g2 x)) H Q at hp
  cases hg : g1 x with
  | bad => rw [hg] at hp; exact .inr (h2 F ρ σ W Hs H vx x Q Rf q1 hp)
  | ok v => rw [hg] at hp; exact .inl (h1 F ρ σ W Hs H vx x Q Rf q1 (by rw [hg]; exact hp))
  | exc c l => rw [hg] at hp; exact .inl (h1 F ρ σ W Hs H vx x Q Rf q1 (by rw [hg]; exact hp))
/-! + and * -/
def gAdd : Vl → Vl → R Vl := fun x y => match x.d with
  | .int _ => gAddI x y
  | .str _ => gAddS x y
  | .lst _ => gCat x y
  | _ => .bad
def gMul : Vl → Vl → R Vl := fun x y => match x.d with
  | .int _ => gMulI x y
  | .str _ => gMulS x y
  | .lst _ => gRep x y
  | _ => .bad
/-- two rules for one expression, the choice by the first part's value -/
theorem q_pick {f0 : En → R Vl} (pick : Vl → Bool) {g1 g2 : En → R Vl} {g : En → R Vl} (h1 : QE X T W e g1) (h2 : QE X T W e g2) (h : ∀ ρ, g ρ = g1 ρ ∨ g ρ = g2 ρ ∨ g ρ = .bad) : QE X T W e g := by
  obtain ⟨t1, p1, s1⟩ := h1.ex
  obtain ⟨t2, p2, s2⟩ := h2.ex
  refine ⟨⟨fun σ H Q => t1 σ H Q ∨ t2 σ H Q, ⟨fun pins s σ H Q I h => h.elim (p1.run pins s σ H Q I) (p2.run pins s σ H Q I)⟩, fun F ρ σ H Rf Q hp => ?_⟩⟩
  rcases h ρ with e | e | e
  · exact .inl (s1 F ρ σ H Rf Q (by rw [← e]; exact hp))
  · exact .inr (s2 F ρ σ H Rf Q (by rw [← e]; exact hp))
  · rw [e] at hp; exact hp.elim
theorem e2_or {g1 g2 g : Vl → Vl → R Vl} (h : ∀ x, (∀ y, g x y = g1 x y) ∨ (∀ y, g x y = g2 x y)) : ∀ ρ, e2 g f1 f2 ρ = e2 g1 f1 f2 ρ ∨ e2 g f1 f2 ρ = e2 g2 f1 f2 ρ ∨ e2 g f1 f2 ρ = .bad := fun ρ => by
  unfold e2
  cases h1 : f1 ρ with
  | exc c l => exact .inl rfl
  | bad => exact .inl rfl
  | ok x =>
    rw [R.bind_ok, R.bind_ok, R.bind_ok]
    rcases h x with z | z
    · left
      congr 1
      funext y
      exact z y
    · right; left
      congr 1
      funext y
      exact z y
def gAdd2 : Vl → Vl → R Vl := fun x y => match x.d with
  | .int _ => gAddI x y
  | _ => gAddS x y
def gMul2 : Vl → Vl → R Vl := fun x y => match x.d with
  | .int _ => gMulI x y
  | _ => gMulS x y
theorem q_plus (ha : QE X T W a f1) (hb : QE X T W b f2) : QE X T W (.BinOp a .Add b pos) (e2 gAdd f1 f2) := by
  refine q_pick (f0 := f1) (fun _ => true) (q_pick (f0 := f1) (fun _ => true) (q_addI ha hb) (q_addS ha hb) (g := e2 gAdd2 f1 f2) (e2_or fun x => ?_)) (q_cat ha hb) (e2_or fun x => ?_)
  · unfold gAdd2
    cases x.d with
    | int i => exact .inl fun _ => rfl
    | _ => exact .inr fun _ => rfl
  · unfold gAdd gAdd2
    cases hd : x.d with
    | int i => exact .inl fun _ => rfl
    | str i => exact .inl fun _ => rfl
    | lst i => exact .inr fun _ => rfl
    | _ => exact .inr fun y => by simp only [gCat, hd]
theorem q_times (ha : QE X T W a f1) (hb : QE X T W b f2) : QE X T W (.BinOp a .Mult b pos) (e2 gMul f1 f2) := by
  refine q_pick (f0 := f1) (fun _ => true) (q_pick (f0 := f1) (fun _ => true) (q_mulI ha hb) (q_mulS ha hb) (g := e2 gMul2 f1 f2) (e2_or fun x => ?_)) (q_rep ha hb) (e2_or fun x => ?_)
  · unfold gMul2
    cases x.d with
    | int i => exact .inl fun _ => rfl
    | _ => exact .inr fun _ => rfl
  · unfold gMul gMul2
    cases hd : x.d with
    | int i => exact .inl fun _ => rfl
    | str i => exact .inl fun _ => rfl
    | lst i => exact .inr fun _ => rfl
    | _ => exact .inr fun y => by simp only [gRep, hd]
/-! x[i] -/
def gDg : Vl → Vl → R Vl := fun x y => ofO (dct? x) fun l => ofO (key? y) fun k => ofO (valD l k) fun d => pl d x.f
def gAt : Vl → Vl → R Vl := fun x y => match x.d with
  | .dct _ => gDg x y
  | _ => gIx x y
theorem q_at (hu : X.A.units + 1 < cLine) (ha : QE X T W a f1) (hb : QE X T W b f2) (hs : NoSl b := by exact fun _ _ => rfl) (hp : PlainIx b := by exact fun _ _ => rfl) : QE X T W (.Subscript a b pos) (e2 gAt f1 f2) := by
  refine q_pick (f0 := f1) (fun _ => true) (q_dget hu ha hb hs) (q_ix ha hb hp) (e2_or (g1 := gDg) fun x => ?_)
  unfold gAt
  cases hd : x.d with
  | dct i => exact .inl fun _ => rfl
  | _ => exact .inr fun _ => rfl
/-! in -/
def cInA : Vl → Vl → Option Bool := fun x y => match y.d with
  | .str _ => cInS x y
  | _ => cIn x y
def cNinA : Vl → Vl → Option Bool := fun x y => match y.d with
  | .str _ => cNinS x y
  | _ => cNin x y
theorem inA_or {g1 g2 : Vl → Vl → Option Bool} {K : PySem.W.Frag} {r1 r2 : R2} (h1 : SndC K T r1 g1) (h2 : SndC K T r2 g2) : SndC K T (fun x y H Q => r1 x y H Q ∨ r2 x y H Q) (fun x y => match y.d with
  | .str _ => g1 x y
  | _ => g2 x y) := fun F ρ σ Hs H vx vy x y Q k Rf q1 q2 e hk => by
  cases hd : y.d with
  | str i =>
    simp only [hd] at e
    exact .inl (h1 F ρ σ Hs H vx vy x y Q k Rf q1 q2 e hk)
  | _ =>
    simp only [hd] at e
    exact .inr (h2 F ρ σ Hs H vx vy x y Q k Rf q1 q2 e hk)
theorem s_inA {K : PySem.W.Frag} : SndC K T (fun x y H Q => (∃ (c : Nat) (z : Str), x = .str ⟨#[c]⟩ ∧ y = .str z ∧ Q (.bl (decide (c ∈ z.cps.toList))) H) ∨ rIn K false x y H Q) cInA := inA_or s_inS s_in
theorem s_ninA {K : PySem.W.Frag} : SndC K T (fun x y H Q => (∃ (c : Nat) (z : Str), x = .str ⟨#[c]⟩ ∧ y = .str z ∧ Q (.bl (!decide (c ∈ z.cps.toList))) H) ∨ rIn K true x y H Q) cNinA := inA_or s_ninS s_nin
theorem op_inA : OpR X (compareOp .In) (fun x y H Q => (∃ (c : Nat) (z : Str), x = .str ⟨#[c]⟩ ∧ y = .str z ∧ Q (.bl (decide (c ∈ z.cps.toList))) H) ∨ rIn X.K false x y H Q) := OpR.or op_in_sign op_in_seq
theorem op_ninA : OpR X (compareOp .NotIn) (fun x y H Q => (∃ (c : Nat) (z : Str), x = .str ⟨#[c]⟩ ∧ y = .str z ∧ Q (.bl (!decide (c ∈ z.cps.toList))) H) ∨ rIn X.K true x y H Q) := OpR.or op_notIn_sign op_notIn_seq
/-! sorted -/
def gSorted : Vl → R Vl := fun x => orR (gSortedD x) (gSortedI x)
/-! for x in .. -/
def iAll (f : En → R Vl) : En → R Itm := fun ρ => (f ρ).bind fun x => match x.d with
  | .lst l => .ok ⟨l, x.f, isBo x⟩
  | .lsk l => .ok ⟨l, x.f, isBo x⟩
  | .tup l => .ok ⟨l, x.f, false⟩
  | .str l => .ok ⟨l.map fun c => .str [c], true, false⟩
  | _ => .bad
theorem qi_pick {tg : Expr} {g1 g2 g3 g : En → R Itm} (h1 : QI X T W tg e g1) (h2 : QI X T W tg e g2) (h3 : QI X T W tg e g3) (h : ∀ ρ, g ρ = g1 ρ ∨ g ρ = g2 ρ ∨ g ρ = g3 ρ ∨ g ρ = .bad) : QI X T W tg e g := by
  obtain ⟨t1, p1, s1⟩ := h1.ex
  obtain ⟨t2, p2, s2⟩ := h2.ex
  obtain ⟨t3, p3, s3⟩ := h3.ex
  refine ⟨⟨fun σ H Q => t1 σ H Q ∨ t2 σ H Q ∨ t3 σ H Q, ⟨fun pins s σ H Q I h => h.elim (p1.run pins s σ H Q I) fun h => h.elim (p2.run pins s σ H Q I) (p3.run pins s σ H Q I)⟩, fun F ρ σ H Rf Q hp => ?_⟩⟩
  rcases h ρ with e | e | e | e
  · exact .inl (s1 F ρ σ H Rf Q (by rw [← e]; exact hp))
  · exact .inr (.inl (s2 F ρ σ H Rf Q (by rw [← e]; exact hp)))
  · exact .inr (.inr (s3 F ρ σ H Rf Q (by rw [← e]; exact hp)))
  · rw [e] at hp; exact hp.elim
theorem qi_all {tg : Expr} (he : QE X T W e f) : QI X T W tg e (iAll f) := qi_pick (qi_seq he) (qi_tup he) (qi_str he) fun ρ => by
  unfold iAll iSeq iTupl iStr'
  cases hf : f ρ with
  | exc c l => exact .inl rfl
  | bad => exact .inl rfl
  | ok x =>
    rw [R.bind_ok, R.bind_ok, R.bind_ok, R.bind_ok]
    cases hd : x.d with
    | lst l => exact .inl rfl
    | lsk l => exact .inl rfl
    | tup l => exact .inr (.inl rfl)
    | str l => exact .inr (.inr (.inl rfl))
    | _ => exact .inr (.inr (.inr rfl))
/-! x[i] = e -/
def sSetA (i : Nat) (fj f : En → R Vl) : En → Out := fun ρ => match ρ[i]? with
  | some (.ow (.dct _) _) => sSetK i fj f ρ
  | _ => sSetI i fj f ρ
theorem s_pick {st : Stmt} {g1 g2 g : En → Out} (h1 : QS X T W st g1) (h2 : QS X T W st g2) (h : ∀ ρ, g ρ = g1 ρ ∨ g ρ = g2 ρ) : QS X T W st g := by
  obtain ⟨t1, p1, s1⟩ := h1.ex
  obtain ⟨t2, p2, s2⟩ := h2.ex
  refine ⟨⟨fun E σ H => t1 E σ H ∨ t2 E σ H, ⟨fun pins s σ H E I h => h.elim (p1.run pins s σ H E I) (p2.run pins s σ H E I)⟩, fun F ρ σ H Rf E hp => ?_⟩⟩
  rcases h ρ with e | e
  · exact .inl (s1 F ρ σ H Rf E (by rw [← e]; exact hp))
  · exact .inr (s2 F ρ σ H Rf E (by rw [← e]; exact hp))
theorem s_setA (i : Nat) {x : Str} {p pos' : Pos} (hu : X.A.units + 1 < cLine) (hN : X.N[i]? = some x) (hv : Vis X.env.scope x) (hj : QE X T W b f1) (he : QE X T W e f)
    (hps : ∀ {tj te : TE}, PE X b tj → PE X e te → PS X (.Assign [.Subscript (.Name x p) b pos'] e pos) (tAsg te (gSub (tVar i) tj rSetL)))
    (hd : (x == ("__debug__" : Str)) = false := by decide) (hcd : (x == ("__classdict__" : Str)) = false := by decide)
    (hs : swapsWith e (some (.Subscript (.Name x p) b pos')) pos.line X.env = pure false := by rfl) :
    QS X T W (.Assign [.Subscript (.Name x p) b pos'] e pos) (sSetA i f1 f) := by
  refine s_pick (s_setK i hu hN hv hj he hd hcd hs) (s_setI i hN hv hj he hd hcd hps) fun ρ => ?_
  unfold sSetA
  split
  · exact .inl rfl
  · exact .inr rfl
/-! a, b = a tuple or a list -/
def hSeq (is : List Nat) (d : D) (f : Bool) (ρ : En) : Option En := match d with
  | .tup ds => hNames is ds f ρ
  | .lst ds => hNames is ds f ρ
  | .lsk ds => hNames is ds f ρ
  | _ => none
theorem g_seq {es : List Expr} {k : Nat} {is : List Nat} (hc : X.calm = true) (h : QGs X T es is) (hn : (assignEach es X.env).length = is.length := by rfl) (hst : (assignEach es X.env).findIdx? (·.1) = none := by rfl) : QG X T (.Tuple es k pos) is (hSeq is) := by
  obtain ⟨g1, pg1, hg1⟩ := (g_tup hc h hn hst).ex
  obtain ⟨gs, pgs, hgs⟩ := h.ex
  have pl := pg_lst (k := k) (pos := pos) (n := is.length) hc pgs hn hst
  refine ⟨⟨fun v σ H Q => g1 v σ H Q ∨ gLst X.K is.length gs v σ H Q, ⟨fun pins s σ H v u Q I r hw => hw.elim (pg1.run pins s σ H v u Q I r) (pl.run pins s σ H v u Q I r)⟩, fun F ρ σ H Rf v d f hr ρ' e Q hq => ?_⟩⟩
  have len : ∀ {is : List Nat} {ds : List D} {ρ ρ' : En}, hNames is ds f ρ = some ρ' → ds.length = is.length := by
    intro is
    induction is with
    | nil => intro ds ρ ρ' e; cases ds with | nil => rfl | cons => cases e
    | cons i is ih =>
      intro ds ρ ρ' e
      cases ds with
      | nil => cases e
      | cons d ds =>
        unfold hNames at e
        obtain ⟨ρ1, _, e2⟩ := Option.bind_eq_some_iff.mp e
        simp [ih e2]
  cases hr with
  | tup p vs ds h1 h2 => exact .inl (hg1 F ρ σ H Rf _ _ f (.tup p vs ds h1 h2) ρ' e Q hq)
  | lst p vs ds h1 h2 => exact .inr ⟨p, vs, rfl, Or.inl (Or.inl (Rf.hH _ _ h1)), by rw [h2.length]; exact len e, hgs F ρ σ H Rf vs ds f h2 ρ' e Q hq⟩
  | lsk p vs ds h1 h2 => exact .inr ⟨p, vs, rfl, Rf.hH.sqL h1, by rw [h2.length]; exact len e, hgs F ρ σ H Rf vs ds f h2 ρ' e Q hq⟩
  | non => cases e
  | bl => cases e
  | int => cases e
  | str => cases e
  | dct => cases e
  | obj => cases e
end
end Ev
set_option maxHeartbeats 1000000
/-! Ev15: what the printed terms name. -/
namespace Ev
open PySem L2

theorem takes0 {X : Cx} : Takes X W0 := fun u s' ⟨_, _, _, _, _, _, _, _, _, _, _, _, _, _, _, _, w⟩ => w.elim
theorem blkOk_of {N : List Str} {sc scope : Scope} {own : List (Str × Nat)} (h : (decide (scope.kind = .function) && (decide (∀ y ∈ scope.names, scope.names.lookup y.1 = some y.2) && (decide (∀ p ∈ own, N[p.2]? = some p.1) &&
    (decide (∀ y ∈ scope.names, y.2 = .free → sc.names.lookup y.1 = some .cell ∨ sc.names.lookup y.1 = some .free) && decide (∀ y ∈ scope.names, y.2 = .local ∨ y.2 = .cell → y.1 ∈ own.map (·.1) ∨ y.1 ∉ N))))) = true) : BlkOk N sc scope own := by
  obtain ⟨h1, h⟩ := Bool.and_eq_true_iff.mp h
  obtain ⟨h2, h⟩ := Bool.and_eq_true_iff.mp h
  obtain ⟨h3, h⟩ := Bool.and_eq_true_iff.mp h
  obtain ⟨h4, h5⟩ := Bool.and_eq_true_iff.mp h
  exact ⟨of_decide_eq_true h1, of_decide_eq_true h2, of_decide_eq_true h3, of_decide_eq_true h4, of_decide_eq_true h5⟩
section
variable {P : Program} {w : World} {K : PySem.W.Frag} {mg : Str → Option Value} {base : Heap} {x qual : Str} {params : Arguments} {body : List Stmt} {scope : Scope} {dvs : List V} {kws : List (Str × V)} {f : Addr} {fd : FuncData} {N ps : List Str} {k m : Nat} {T : Tb}
theorem fnDD {g : En → Out} (Fd : FunD K x qual params body scope dvs kws f fd) (S : FnScope N ps scope) (hN : ps.length ≤ N.length)
    (hb : ∀ (cdv : Value) (A : Around) (outer : List Env) (s : Shared) (H : Hp) (E : XK), Room k (cxOf (L2.CX P w) P w K mg base N qual scope f cdv A outer s H E).A → Takes (cxOf (L2.CX P w) P w K mg base N qual scope f cdv A outer s H E) (fun cls d _ H => E cls d H) →
      PassesOwn (model P w) (cxOf (L2.CX P w) P w K mg base N qual scope f cdv A outer s H E).A (cxOf (L2.CX P w) P w K mg base N qual scope f cdv A outer s H E).env (cxOf (L2.CX P w) P w K mg base N qual scope f cdv A outer s H E).xe →
      (cxOf (L2.CX P w) P w K mg base N qual scope f cdv A outer s H E).A.units + 1 < cLine → (cxOf (L2.CX P w) P w K mg base N qual scope f cdv A outer s H E).A.units + 64 < cLine →
      QSs (cxOf (L2.CX P w) P w K mg base N qual scope f cdv A outer s H E) T (fun cls d _ H => E cls d H) body g) :
    FnOk P w K mg base (L2.CX P w) (k + 1) f fd ps (spD K T ps.length (bodyR g N.length)) :=
  fnD Fd S hN fun cdv A outer s H E hr => hb cdv A outer s H E hr (takes_of rfl rfl rfl rfl) (passes_of rfl) (hu_of hr) hr.units
theorem fnID {g : En → Out} (c : Nat) (Fd : FunD K x qual params body scope dvs kws f fd) (S : FnScope N ps scope) (hN : ps.length ≤ N.length) (hm : ps.length = m + 1)
    (hb : ∀ (cdv : Value) (A : Around) (outer : List Env) (s : Shared) (H : Hp) (E : XK), Room k (cxOf (L2.CX P w) P w K mg base N qual scope f cdv A outer s H E).A → Takes (cxOf (L2.CX P w) P w K mg base N qual scope f cdv A outer s H E) (fun cls d _ H => E cls d H) →
      PassesOwn (model P w) (cxOf (L2.CX P w) P w K mg base N qual scope f cdv A outer s H E).A (cxOf (L2.CX P w) P w K mg base N qual scope f cdv A outer s H E).env (cxOf (L2.CX P w) P w K mg base N qual scope f cdv A outer s H E).xe →
      (cxOf (L2.CX P w) P w K mg base N qual scope f cdv A outer s H E).A.units + 1 < cLine → (cxOf (L2.CX P w) P w K mg base N qual scope f cdv A outer s H E).A.units + 64 < cLine →
      QSs (cxOf (L2.CX P w) P w K mg base N qual scope f cdv A outer s H E) T (fun cls d _ H => E cls d H) body g) :
    FnOk P w K mg base (L2.CX P w) (k + 1) f fd ps (spI K T c m (initR c g N.length)) :=
  fnI c Fd S hN hm fun cdv A outer s H E hr => hb cdv A outer s H E hr (takes_of rfl rfl rfl rfl) (passes_of rfl) (hu_of hr) hr.units
theorem fnXD {g : En → R (List D)} (c : Nat) (Fd : FunD K x qual params body scope dvs kws f fd) (S : FnScope N ps scope) (hN : ps.length ≤ N.length) (hm : ps.length = m + 1)
    (hb : ∀ (cdv : Value) (A : Around) (outer : List Env) (s : Shared) (H : Hp) (E : XK), Room k (cxOf (L2.CX P w) P w K mg base N qual scope f cdv A outer s H E).A → Takes (cxOf (L2.CX P w) P w K mg base N qual scope f cdv A outer s H E) (fun cls d _ H => E cls d H) →
      PassesOwn (model P w) (cxOf (L2.CX P w) P w K mg base N qual scope f cdv A outer s H E).A (cxOf (L2.CX P w) P w K mg base N qual scope f cdv A outer s H E).env (cxOf (L2.CX P w) P w K mg base N qual scope f cdv A outer s H E).xe →
      (cxOf (L2.CX P w) P w K mg base N qual scope f cdv A outer s H E).A.units + 1 < cLine → (cxOf (L2.CX P w) P w K mg base N qual scope f cdv A outer s H E).A.units + 64 < cLine →
      QX (cxOf (L2.CX P w) P w K mg base N qual scope f cdv A outer s H E) T (fun cls d _ H => E cls d H) c 0 body g) :
    FnOk P w K mg base (L2.CX P w) (k + 1) f fd ps (spX K T c m (xinitR g N.length)) :=
  fnX c Fd S hN hm fun cdv A outer s H E hr => hb cdv A outer s H E hr (takes_of rfl rfl rfl rfl) (passes_of rfl) (hu_of hr) hr.units
end
theorem kitB1_ok {K : PySem.W.Frag} {C : Addr} {us : List Value} {b : Bool} (h : kitB1 C us b K = true) : PySem.W.kitAny K (.ref C) us = some b := of_decide_eq_true h
def kitB0 (t : String) (us : List Value) (b : Bool) : FB := fun K => decide (PySem.W.kitAny K (.type t) us = some b)
theorem kitB0_ok {K : PySem.W.Frag} {t : String} {us : List Value} {b : Bool} (h : kitB0 t us b K = true) : PySem.W.kitAny K (.type t) us = some b := of_decide_eq_true h
theorem clokOf {K : PySem.W.Frag} {T : Tb} {c : Nat} (h1 : Cls K (T.ca c)) (h2 : (T.cf c).Nodup) (h3 : ∀ f ∈ T.cf c, NoAttr K (T.ca c) f) (h4 : (T.cf c).length < 1000 := by decide) : ClOk K T c := ⟨h1, h3, h2, h4⟩
end Ev
set_option maxHeartbeats 1000000
/-! Ev16: a lean look at the heap behind the top: only what the walk names. -/
namespace Ev
open PySem L2

def nsOf : Option Obj → List Addr
  | some ⟨_, _, .cls cd, _⟩ => [cd.ns]
  | _ => []
def fnOf : Option Obj → List Addr
  | some ⟨_, _, .func fd, _⟩ => He.refV fd.code ++ (He.refV fd.defaults ++ He.refV fd.kwdefaults)
  | _ => []
def inOf : Option Obj → List Addr
  | some o => He.refsO o
  | none => []
def asL3 (g : Addr → Option Obj) (ca ns fa : List Addr) : List Addr := mainGlobals :: (ca ++ (ns ++ (fa ++ fa.flatMap fun a => fnOf (g a))))
def asL2 (g : Addr → Option Obj) (ca fa ns : List Addr) : List Addr := asL3 g ca ns (fa ++ ns.flatMap fun a => inOf (g a))
def asL1 (g : Addr → Option Obj) (ca fa : List Addr) : List Addr := asL2 g ca fa (ca.flatMap fun a => nsOf (g a))
/-- the named classes, what stands in them, the named functions, their codes and defaults -/
def asL (g : Addr → Option Obj) (cs fs : List Str) : List Addr := asL1 g (cs.map (He.ga (He.frG g [mainGlobals]))) (fs.map (He.ga (He.frG g [mainGlobals])))
def obsLG (cs fs : List Str) (fb : List FB) (fn : List He.DefD) (g : Addr → Option Obj) : He.AlD := obsX fb fn (He.frG g (asL g cs fs))
def hookL (cs fs : List Str) (fb : List FB) (fn : List He.DefD) : PySem.W.Hook where
  α := He.AlD
  obs s := obsLG cs fs fb fn s.heap.get?
  val _ := He.valD fn
  says _ h := ∃ K : PySem.W.Frag, K.In h ∧ SaysX fb fn K
  of _ _ e := ⟨_, He.frG_in, e⟩
  keeps _ _ _ := fun ⟨K, hK, c⟩ k => ⟨K, hK.keeps k, c⟩
theorem obsLG_eq {cs fs : List Str} {fb : List FB} {fn : List He.DefD} {g : Addr → Option Obj} {s : Shared} (h : ∀ a, g a = s.heap.get? a) : obsLG cs fs fb fn g = (hookL cs fs fb fn).obs s := by
  have e : g = s.heap.get? := funext h
  rw [e]
  rfl
end Ev
set_option maxHeartbeats 1000000
/-! Ev17: raise C(), except without a name, operators of own classes. -/
namespace Ev
open PySem L2

/-! ### raise C() where C has no own __init__ -/
def sRaise0 (c : Nat) : En → Out := fun ρ => .exc ρ c []
theorem pmk_bare {X : Cx} {C : Addr} {bmB : List Value} {B newId initId : String} {x : Str} {p pos : Pos} (F : ExcBaseFacts B newId initId bmB) (q : PySem.W.excIn X.K C bmB newId = true) (gC : X.mg x = some (.ref C))
    (kC : PySem.W.keepIn X.K (.ref C) = true) (r : Raises X (.ref C)) (hg : Gl X x) (hdb : NotDbg x) : PMk X (.Call (.Name x p) [] [] pos) (fun _ H Q => Q (.ref C) none H) := fun pins s σ H Q I h => by
  obtain ⟨bm, N, nm, qn, bs, hdct, sn, sub, ab, col, dd, k0, k1, k2, k3, k5, mN, hC, hN, hni, T⟩ := exc_obj I.kIn q
  refine PySem.wpAny_Call_Name_kw (ld_glob I hg gC (PySem.W.callWith_K0 (first := []) I.kIn kC ?_) hdb)
  exact wpAny_call_exc_subT F T hC hN hni (fun h' e hm => mk_of I hm r h (I.hok.gone hm.new)) (by show 0 ≤ sizeLine; exact Nat.zero_le _)
theorem s_raise0 {X : Cx} {T : Tb} {W : WX} (c : Nat) {x : Str} {p pos pos2 : Pos} (q : PySem.W.excIn X.K (T.ca c) He.veBase "ValueError.__new__" = true ∧ PySem.W.keepIn X.K (.ref (T.ca c)) = true ∧ PySem.W.subIn X.K (.ref (T.ca c)) (.type "BaseException") = some true ∧ PySem.W.typeIn X.K (.ref (T.ca c)) = some (.type "type"))
    (hnf : T.cf c = []) (tk : Takes X W) (hc : X.calm = true) (hm : X.mg x = some (.ref (T.ca c))) (hg : Gl X x := by rfl) (hdb : NotDbg x := by decide) :
    QS X T W (.Raise (some (.Call (.Name x p) [] [] pos)) none pos2) (sRaise0 c) :=
  ⟨⟨_, ps_raise hc tk (pmk_bare F.excBase_ValueError q.1 hm q.2.1 (raises_own q.2.2.1 q.2.2.2) hg hdb), fun F ρ σ H Rf E h => h none σ H Rf (Ex.refl _) (.inl ⟨hnf, rfl, rfl⟩)⟩⟩

/-! ### operators by own methods -/
def noX {α : Type} (r : R α) : R α := match r with
  | .ok a => .ok a
  | _ => .bad
def blR (r : R Vl) : Option Bool := match r with
  | .ok a => bl? a
  | _ => none
/-- x op y, both of the class c -/
def gOwn (c : Nat) (Φ : Sm) : Vl → Vl → R Vl := fun x y => match x.d, y.d with
  | .obj c1 _, .obj c2 _ => if c1 = c ∧ c2 = c then noX (callR Φ [x, y] []) else .bad
  | _, _ => .bad
def rOwnB (C : Addr) (sp : Sp) : R2 := fun x y H Q => ∃ a b dx dy fs gs, x = .ref a ∧ y = .ref b ∧ H a = some (.ins C dx fs) ∧ H b = some (.ins C dy gs) ∧ sp [x, y] H Q (fun _ _ _ => False)
section
variable {X : Cx} {T : Tb} {W : WX} {k : Nat} {f C : Addr} {fd : FuncData} {ps : List Str} {sp : Sp}
theorem own_call (F : FnOk X.prog X.w X.K X.mg X.base (L2.CX X.prog X.w) k f fd ps sp) (hr : Room k X.A) (hb : Binds X.K fd ps []) {pins : List (Addr × Obj)} {σ : L2.St} {H : Hp} {s : Shared} {Q : VK} {us : List Value} {vs : List V}
    (I : Inv X pins σ H s) (r : Vals vs us) (h : sp vs H Q (fun _ _ _ => False)) : wpAny (model X.prog X.w) X.A (call (.ref f) us) (EP X pins σ Q) X.xe s :=
  run_fnSD (E := WE W0) F hr hb .nil (passAt takes0 σ) I r (by rw [List.append_nil]; exact h)
theorem back_ok {pins : List (Addr × Obj)} {σ : L2.St} {Q : VK} {v : Value} {s : Shared} (h : EP X pins σ Q v s) : PySem.W.CmpBack (EP X pins σ Q) v s := by
  obtain ⟨x, H, I, rx, q⟩ := h
  cases v with
  | notImplemented =>
    cases x with
    | int i => obtain ⟨t, e⟩ := rx; cases e
    | str i => obtain ⟨t, e⟩ := rx; cases e
    | byt i => obtain ⟨t, e⟩ := rx; cases e
    | flt i => obtain ⟨t, e⟩ := rx; cases e
    | _ => cases rx
  | _ => exact ⟨x, H, I, rx, q⟩
theorem op_own {op : Operator} (F : FnOk X.prog X.w X.K X.mg X.base (L2.CX X.prog X.w) k f fd ps sp) (hr : Room k X.A) (hb : Binds X.K fd ps []) (hc : PySem.W.selfFirst X.K C = true)
    (hm : Meth X.K C (PySem.dunder op.info.2) f) : OpR X (binaryOp op) (rOwnB C sp) := by
  intro pins s σ H x y v u Q I rx ry h
  obtain ⟨a, b, dx, dy, fs, gs, rfl, rfl, ha, hb', h⟩ := h
  cases rx
  cases ry
  obtain ⟨_, J, _⟩ := ins_get I.hok ha
  obtain ⟨_, J', _⟩ := ins_get I.hok hb'
  obtain ⟨od, J, _⟩ := J.look
  obtain ⟨od', J', _⟩ := J'.look
  obtain ⟨m, hF⟩ := I.fr
  exact PySem.W.binop_K hF I.ok.mod.kin J J'.type hc hm.at_ hm.fn (wpAny_mono (own_call F hr hb (us := [.ref a, .ref b]) (vs := [.ref a, .ref b]) I (.cons rfl (.cons rfl .nil)) h) (fun _ _ z => back_ok z) fun _ _ z => z)
theorem s_opO (c : Nat) {Φ : Sm} : Snd X.K T (rOwnB (T.ca c) (spD X.K T 2 Φ)) (gOwn c Φ) := by
  intro F ρ σ W Hs H vx vy x y Q Rf q1 q2 h
  unfold gOwn at h
  split at h
  · rename_i c1 l1 c2 l2 e1 e2
    split at h
    · rename_i hc
      obtain ⟨rfl, rfl⟩ := hc
      obtain ⟨a, dx, vs, rfl, ha, _, _⟩ := obj_of Rf q1 e1
      obtain ⟨b, dy, ws, rfl, hb, _, _⟩ := obj_of Rf q2 e2
      refine ⟨a, b, dx, dy, _, _, rfl, rfl, ha, hb, ?_⟩
      have h2 : Pst ⟨X.K, T, F, ρ, σ, W0⟩ (relE ⟨X.K, T, F, ρ, σ, W0⟩) (callR Φ [x, y] []) H Q := by
        cases hk : callR Φ [x, y] [] with
        | ok r => rw [hk] at h; exact h
        | exc c l => rw [hk] at h; exact h.elim
        | bad => rw [hk] at h; exact h.elim
      exact call_sp (vs := [.ref a, .ref b]) (dvs := []) (dds := []) (n := 2) Rf (.cons _ _ _ _ q1 (.cons _ _ _ _ q2 .nil)) (fun G => Reps.nil) rfl h2
    · exact h.elim
  · exact h.elim
/-- ~x -/
def eInv (c : Nat) (Φ : Sm) (f : En → R Vl) : En → R Vl := fun ρ => (f ρ).bind fun x => match x.d with
  | .obj c1 _ => if c1 = c then noX (callR Φ [x] []) else .bad
  | _ => .bad
/-- x in y, y of the class c -/
def cInO (c : Nat) (Φ : Sm) : Vl → Vl → Option Bool := fun x y => match y.d with
  | .obj c1 _ => if c1 = c then blR (callR Φ [y, x] []) else none
  | _ => none
def cNinO (c : Nat) (Φ : Sm) : Vl → Vl → Option Bool := fun x y => (cInO c Φ x y).map (!·)
def rInO (C : Addr) (sp : Sp) (g : Bool → Bool) : R2 := fun x y H Q => ∃ b dy gs, y = .ref b ∧ H b = some (.ins C dy gs) ∧ sp [y, x] H (fun v H' => ∃ k, v = .bl k ∧ Q (.bl (g k)) H') (fun _ _ _ => False)
theorem op_inO (F : FnOk X.prog X.w X.K X.mg X.base (L2.CX X.prog X.w) k f fd ps sp) (hr : Room k X.A) (hb : Binds X.K fd ps []) (hm : Meth X.K C "__contains__" f) : OpR X (compareOp .In) (rInO C sp id) := by
  intro pins s σ H x y v u Q I rx ry h
  obtain ⟨b, dy, gs, rfl, hb', h⟩ := h
  cases ry
  obtain ⟨_, J, _⟩ := ins_get I.hok hb'
  obtain ⟨od, J, _⟩ := J.look
  obtain ⟨m, hF⟩ := I.fr
  refine PySem.W.in_K hF I.ok.mod.kin J hm.at_ hm.fn (wpAny_mono (own_call F hr hb (us := [.ref b, v]) (vs := [.ref b, x]) I (.cons rfl (.cons rx .nil)) h) (fun r s' z => ?_) fun _ _ z => z)
  obtain ⟨x, H', I', rr, k, rfl, q⟩ := z
  cases rr
  exact wpAny_truthy_bool ⟨.bl k, H', I', rfl, q⟩
theorem op_ninO (F : FnOk X.prog X.w X.K X.mg X.base (L2.CX X.prog X.w) k f fd ps sp) (hr : Room k X.A) (hb : Binds X.K fd ps []) (hm : Meth X.K C "__contains__" f) : OpR X (compareOp .NotIn) (rInO C sp (!·)) := by
  intro pins s σ H x y v u Q I rx ry h
  obtain ⟨b, dy, gs, rfl, hb', h⟩ := h
  cases ry
  obtain ⟨_, J, _⟩ := ins_get I.hok hb'
  obtain ⟨od, J, _⟩ := J.look
  obtain ⟨m, hF⟩ := I.fr
  refine PySem.W.notIn_K hF I.ok.mod.kin J hm.at_ hm.fn (wpAny_mono (own_call F hr hb (us := [.ref b, v]) (vs := [.ref b, x]) I (.cons rfl (.cons rx .nil)) h) (fun r s' z => ?_) fun _ _ z => z)
  obtain ⟨x, H', I', rr, k, rfl, q⟩ := z
  cases rr
  exact wpAny_truthy_bool ⟨.bl (!k), H', I', rfl, q⟩
theorem in_sp (c : Nat) {Φ : Sm} {F : Fp} {ρ : En} {σ : L2.St} {Hs H : Hp} {vx vy : V} {x y : Vl} {Q : VK} {k : Bool} {g : Bool → Bool} (Rf : Fm X.K T F ρ σ H) (q1 : RepV X.K T F ρ σ vx x Hs H) (q2 : RepV X.K T F ρ σ vy y Hs H) (e : cInO c Φ x y = some k)
    (hQ : ∀ H', Ex H H' → Q (.bl (g k)) H') : rInO (T.ca c) (spD X.K T 2 Φ) g vx vy H Q := by
  unfold cInO at e
  split at e
  · rename_i c1 l1 e1
    split at e
    · rename_i hc
      subst hc
      obtain ⟨b, dy, vs, rfl, hb, _, _⟩ := obj_of Rf q2 e1
      refine ⟨b, dy, _, rfl, hb, ?_⟩
      unfold blR at e
      cases hk : callR Φ [y, x] [] with
      | ok r =>
        rw [hk] at e
        refine call_sp (W := W0) (vs := [.ref b, vx]) (dvs := []) (dds := []) (n := 2) Rf (.cons _ _ _ _ q2 (.cons _ _ _ _ q1 .nil)) (fun G => Reps.nil) rfl (Q := fun v H' => ∃ k, v = .bl k ∧ Q (.bl (g k)) H') ?_
        rw [hk]
        exact fun v H' e' q => ⟨k, bl?_rep (Rf.mono e').vH q e, hQ H' e'⟩
      | exc c l => rw [hk] at e; cases e
      | bad => rw [hk] at e; cases e
    · cases e
  · cases e
theorem s_inO (c : Nat) {Φ : Sm} : SndC X.K T (rInO (T.ca c) (spD X.K T 2 Φ) id) (cInO c Φ) := fun F ρ σ Hs H vx vy x y Q k Rf q1 q2 e hQ => in_sp c Rf q1 q2 e hQ
theorem s_ninO (c : Nat) {Φ : Sm} : SndC X.K T (rInO (T.ca c) (spD X.K T 2 Φ) (!·)) (cNinO c Φ) := fun F ρ σ Hs H vx vy x y Q k Rf q1 q2 e hQ => by
  unfold cNinO at e
  obtain ⟨k', e', rfl⟩ := Option.map_eq_some_iff.mp e
  exact in_sp c Rf q1 q2 e' hQ
/-- x == y, both of the class c -/
def cEqO (c : Nat) (Φ : Sm) : Vl → Vl → Option Bool := fun x y => match x.d, y.d with
  | .obj c1 _, .obj c2 _ => if c1 = c ∧ c2 = c then blR (callR Φ [x, y] []) else none
  | _, _ => none
def rEqO (C : Addr) (sp : Sp) : R2 := fun x y H Q => rOwnB C sp x y H (fun v H' => ∃ k, v = .bl k ∧ Q (.bl k) H')
theorem op_eqO (F : FnOk X.prog X.w X.K X.mg X.base (L2.CX X.prog X.w) k f fd ps sp) (hr : Room k X.A) (hb : Binds X.K fd ps []) (hu : X.A.units < cLine) (hm : Meth X.K C "__eq__" f) : OpR X (compareOp .Eq) (rEqO C sp) := by
  intro pins s σ H x y v u Q I rx ry h
  obtain ⟨a, b, dx, dy, fs, gs, rfl, rfl, ha, hb', h⟩ := h
  cases rx
  cases ry
  obtain ⟨_, J, _⟩ := ins_get I.hok ha
  obtain ⟨_, J', _⟩ := ins_get I.hok hb'
  obtain ⟨od, J, _⟩ := J.look
  obtain ⟨od', J', _⟩ := J'.look
  obtain ⟨m, hF⟩ := I.fr
  refine PySem.W.cmp_K (op := .Eq) (tb := .ref C) hu hF I.ok.mod.kin J J'.type (by simp [PySem.W.notFirst]) hm.at_ hm.fn (wpAny_mono (own_call F hr hb (us := [.ref a, .ref b]) (vs := [.ref a, .ref b]) I (.cons rfl (.cons rfl .nil)) h) (fun r s' z => ?_) fun _ _ z => z)
  obtain ⟨x, H', I', rr, k, rfl, q⟩ := z
  cases rr
  exact ⟨.bl k, H', I', rfl, q⟩
theorem s_eqO (c : Nat) {Φ : Sm} : SndC X.K T (rEqO (T.ca c) (spD X.K T 2 Φ)) (cEqO c Φ) := by
  intro F ρ σ Hs H vx vy x y Q k Rf q1 q2 e hQ
  unfold cEqO at e
  split at e
  · rename_i c1 l1 c2 l2 e1 e2
    split at e
    · rename_i hc
      obtain ⟨rfl, rfl⟩ := hc
      obtain ⟨a, dx, vs, rfl, ha, _, _⟩ := obj_of Rf q1 e1
      obtain ⟨b, dy, ws, rfl, hb, _, _⟩ := obj_of Rf q2 e2
      refine ⟨a, b, dx, dy, _, _, rfl, rfl, ha, hb, ?_⟩
      unfold blR at e
      cases hk : callR Φ [x, y] [] with
      | ok r =>
        rw [hk] at e
        refine call_sp (W := W0) (vs := [.ref a, .ref b]) (dvs := []) (dds := []) (n := 2) Rf (.cons _ _ _ _ q1 (.cons _ _ _ _ q2 .nil)) (fun G => Reps.nil) rfl (Q := fun v H' => ∃ k, v = .bl k ∧ Q (.bl k) H') ?_
        rw [hk]
        exact fun v H' e' q => ⟨k, bl?_rep (Rf.mono e').vH q e, hQ H' e'⟩
      | exc c l => rw [hk] at e; cases e
      | bad => rw [hk] at e; cases e
    · cases e
  · cases e
/-! ### one rule or another -/
abbrev cAlt (g1 g2 : Vl → Vl → Option Bool) : Vl → Vl → Option Bool := fun x y => (g1 x y).or (g2 x y)
abbrev gAlt (g1 g2 : Vl → Vl → R Vl) : Vl → Vl → R Vl := fun x y => orR (g1 x y) (g2 x y)
theorem q_inv (c : Nat) {Φ : Sm} {o : Expr} {fo : En → R Vl} {pos : Pos} (F : FnOk X.prog X.w X.K X.mg X.base (L2.CX X.prog X.w) k f fd ps (spD X.K T 1 Φ)) (hr : Room k X.A) (hb : Binds X.K fd ps []) (hm : Meth X.K (T.ca c) "__invert__" f) (ho : QE X T W o fo) :
    QE X T W (.UnaryOp .Invert o pos) (eInv c Φ fo) := by
  obtain ⟨to, po, ho⟩ := ho.ex
  have hU : UnR X (unaryOp .Invert) (fun x H Q => ∃ a dx fs, x = .ref a ∧ H a = some (.ins (T.ca c) dx fs) ∧ spD X.K T 1 Φ [x] H Q (fun _ _ _ => False)) := by
    intro pins s σ H x v Q I rx h
    obtain ⟨a, dx, fs, rfl, ha, h⟩ := h
    cases rx
    obtain ⟨_, J, _⟩ := ins_get I.hok ha
    obtain ⟨od, J, _⟩ := J.look
    obtain ⟨m, hF⟩ := I.fr
    exact PySem.W.ksp_inv hF I.ok.mod.kin J hm.at_ hm.fn (own_call F hr hb (us := [.ref a]) (vs := [.ref a]) I (.cons rfl .nil) h)
  refine ⟨⟨_, pe_un hU po, fun F' ρ σ H Rf Q h => ?_⟩⟩
  refine ho F' ρ σ H Rf _ (h.bind (stE _) fun x vx H1 _ e1 q1 h1 => ?_)
  split at h1
  · rename_i c1 l1 e2
    split at h1
    · rename_i hc
      subst hc
      obtain ⟨a, dx, vs, rfl, ha, _, _⟩ := obj_of (Rf.mono e1) q1 e2
      refine ⟨a, dx, _, rfl, ha, ?_⟩
      have h2 : Pst ⟨X.K, T, F', ρ, σ, W0⟩ (relE ⟨X.K, T, F', ρ, σ, W0⟩) (callR Φ [x] []) H1 Q := by
        cases hk : callR Φ [x] [] with
        | ok r => rw [hk] at h1; exact h1
        | exc c l => rw [hk] at h1; exact h1.elim
        | bad => rw [hk] at h1; exact h1.elim
      exact call_sp (vs := [.ref a]) (dvs := []) (dds := []) (n := 1) (Rf.mono e1) (.cons _ _ _ _ q1 .nil) (fun G => Reps.nil) rfl h2
    · exact h1.elim
  · exact h1.elim
end
end Ev
set_option maxHeartbeats 2000000
/-! Ev18: zip of two texts. -/
namespace Ev
open PySem PySem.Spec PyProof.Rows L2

/-- the signs of two texts, in new pairs -/
def ItzS (x y : Str) : It :=
  ⟨fun i _ => i < x.cps.size ∧ i < y.cps.size,
    fun i H v H' => ∃ T c d, v = .ref T ∧ H T = none ∧ H' = upd H T (.tup [.str ⟨#[c]⟩, .str ⟨#[d]⟩]) ∧ x.cps[i]? = some c ∧ y.cps[i]? = some d,
    fun i _ => min x.cps.size y.cps.size ≤ i⟩
abbrev stS (z TI TO i1 i2 : Addr) (x y : Str) (t u : Tok) (i : Nat) (h : Heap) : Prop := IsZip h z TI TO .none ∧ IsTupOf2 h TI (.ref i1) (.ref i2) ∧ (∃ a b, IsTupOf2 h TO a b) ∧ h.IsStrIter i1 (strIterType x) x t i ∧ h.IsStrIter i2 (strIterType y) y u i ∧ i ≤ x.cps.size ∧ i ≤ y.cps.size
theorem turn_zipS {P : Program} {w : World} {K : PySem.W.Frag} {elts : List Expr} {kk : Nat} {tpos : Pos} {z TI TO i1 i2 : Addr} {x y : Str} {t u : Tok} (S : ZipSep2 z TI TO i1 i2 [i1] [i2]) :
    Turn P w K (.Tuple elts kk tpos) (ItzS x y) [z, TI, TO, i1, i2] z (stS z TI TO i1 i2 x y t u) where
  mem := by simp
  obj := fun i h st c hc => by
    obtain ⟨hz, hTI, ⟨a, b, hTO⟩, ⟨o1, e1, _, d1⟩, ⟨o2, e2, _, d2⟩, _⟩ := st
    have e' : c = z ∨ c = TI ∨ c = TO ∨ c = i1 ∨ c = i2 := by simpa using hc
    rcases e' with q | q | q | q | q
    · subst q; exact ⟨_, hz, fun v q => nomatch q⟩
    · subst q; exact ⟨_, hTI, fun v q => nomatch q⟩
    · subst q; exact ⟨_, hTO, fun v q => nomatch q⟩
    · subst q; exact ⟨o1, e1, fun v q => by rw [d1] at q; cases q⟩
    · subst q; exact ⟨o2, e2, fun v q => by rw [d2] at q; cases q⟩
  keep := fun i h h' st k => by
    obtain ⟨hz, hTI, ⟨a, b, hTO⟩, ⟨o1, e1, c1⟩, ⟨o2, e2, c2⟩, l⟩ := st
    exact ⟨k z (by simp) _ hz, k TI (by simp) _ hTI, ⟨a, b, k TO (by simp) _ hTO⟩, ⟨o1, k i1 (by simp) _ e1, c1⟩, ⟨o2, k i2 (by simp) _ e2, c2⟩, l⟩
  item := by
    intro X hP hw hK hc i pins s σ H E I hf st hg
    subst hP hw hK
    obtain ⟨hz, hTI, ⟨a0, b0, hTO⟩, h1, h2, l1, l2⟩ := st
    have hh : X.A.in1.handled = none := I.ok.hd hc
    have hzl : z < s.heap.objs.size := Heap.lt_size hz
    refine wpAny_pyNext_zipD2_item S (Draws.text hh i1 x t) (Draws.text hh i2 y u) hz hTI hTO h1 h2 hg.1 hg.2 fun v1 v2 h' tk ⟨c, t1, hx, ev1⟩ ⟨d, t2, hy, ev2⟩ hz' hTO' h1' h2' hT hsz hk => ?_
    subst ev1 ev2
    refine ⟨_, rfl, wpAny_letOwnedTupleGo_zip (s := { s with heap := h', toks := tk }) hz' fun h'' z'' sb => ?_⟩
    have hT2 : h''.get? s.heap.objs.size = some { cls := .type "tuple", data := .seq #[.str ⟨#[c]⟩ t1, .str ⟨#[d]⟩ t2] } := (sb.2 _ (Nat.ne_of_gt hzl)).trans hT
    have new : ObjOk X.prog X.w (upd H s.heap.objs.size (.tup [.str ⟨#[c]⟩, .str ⟨#[d]⟩])) h'' s.heap.objs.size (.tup [.str ⟨#[c]⟩, .str ⟨#[d]⟩]) :=
      ⟨by show 2 ≤ sizeLine; decide, [.str ⟨#[c]⟩ t1, .str ⟨#[d]⟩ t2], .cons ⟨t1, rfl⟩ (.cons ⟨t2, rfl⟩ .nil), ⟨_, hT2, rfl, _, rfl⟩⟩
    have I1 : Inv X pins σ (upd H s.heap.objs.size (.tup [.str ⟨#[c]⟩, .str ⟨#[d]⟩])) { s with heap := h'', toks := tk } :=
      I.turnedNew (t' := tk) (ch := [z, TI, TO, i1, i2]) (fun c o hb q => (sb.2 c (fun q' => hb (by simp [q']))).trans (hk c o (fun q' => hb (by simp [q'])) (fun q' => hb (by simp [q'])) (fun q' => hb (by simp [q'])) (fun q' => hb (by simp [q'])) q)) hf (Nat.le_refl _) new
    refine ⟨.ref s.heap.objs.size, _, I1, rfl, ⟨_, c, d, rfl, I.hok.fresh (Nat.le_refl _), rfl, hx, hy⟩, ⟨z'', ?_, ⟨.str ⟨#[c]⟩ t1, .str ⟨#[d]⟩ t2, ?_⟩, h1'.extBut sb.extBut S.zi1.symm, h2'.extBut sb.extBut S.zi2.symm, hg.1, hg.2⟩, fun b hb => ?_⟩
    · exact (sb.2 _ S.TIz).trans (hk _ _ S.TIz S.TITO S.TIi1 S.TIi2 hTI)
    · exact (sb.2 _ S.TOz).trans hTO'
    · have hlt : b < s.heap.objs.size := by
        have e' : b = z ∨ b = TI ∨ b = TO ∨ b = i1 ∨ b = i2 := by simpa using hb
        rcases e' with q | q | q | q | q
        · exact q ▸ hzl
        · exact q ▸ Heap.lt_size hTI
        · exact q ▸ Heap.lt_size hTO
        · obtain ⟨_, e1, _⟩ := h1; exact q ▸ Heap.lt_size e1
        · obtain ⟨_, e2, _⟩ := h2; exact q ▸ Heap.lt_size e2
      rw [upd_ne (Nat.ne_of_lt hlt)]
      exact (hf b hb).1
  done := by
    intro X hP hw hK hc i pins s σ H E I hf st hg
    subst hP hw hK
    obtain ⟨hz, hTI, ⟨a0, b0, hTO⟩, h1, h2, l1, l2⟩ := st
    have hh : X.A.in1.handled = none := I.ok.hd hc
    have hg : min x.cps.size y.cps.size ≤ i := hg
    exact wpAny_pyNext_zipD2_end S (Draws.text hh i1 x t) (Draws.text hh i2 y u) hz hTI hTO h1 h2 l1 l2 (by omega) fun h' tk hk => ⟨rfl, I.turnedL (t' := tk) (ch := [z, TI, TO, i1, i2]) (fun c o hb q =>
      hk c o (fun q' => hb (by simp [q'])) (fun q' => hb (by simp [q'])) (fun q' => hb (by simp [q'])) (fun q' => hb (by simp [q'])) q) hf⟩
  self := fun A i s Q E st h => wpAny_pyIter_zip st.1 h
def iZipS (ta : TA) : TI := fun σ H R => ta σ H fun vs H1 => ∃ x y, vs = [.str x, .str y] ∧ R (ItzS x y) H1
theorem pi_zipS {X : Cx} {e e2 : Expr} {ta : TA} {p pos tpos : Pos} {elts : List Expr} {kk : Nat} (hg : Gl X "zip") (hm : X.mg "zip" = none) (ha : PA X [e, e2] ta)
    (hs : starEach [e, e2] X.env = (false, eval e X.env) :: starEach [e2] X.env := by rfl) (hpl : (backTo pos (starEach [e2] X.env)).any (·.1) = false := by rfl) :
    PI X (.Tuple elts kk tpos) (.Call (.Name "zip" p) [e, e2] [] pos) (iZipS ta) := by
  refine ⟨fun pins s σ H R I h => ?_⟩
  refine Call_ (ld_blt I hg hm PyProof.Rows.boot_zip (PyProof.Rows.callWith_type1 (thn (ha.run pos pins s σ H _ I h) fun us s1 ⟨vs, H1, I1, r1, x, y, ex, q⟩ => ?_) hs hpl))
  subst ex
  cases r1 with
  | cons r rr =>
    cases rr with
    | cons r' rr =>
      cases rr
      obtain ⟨t, rfl⟩ := r
      obtain ⟨u, rfl⟩ := r'
      have lt : ∀ {k : Nat}, s1.heap.objs.size ≤ s1.heap.objs.size + k := Nat.le_add_right _ _
      refine zip_begins2 (begins_text x t) (begins_text y u) trivial trivial fun h' hz hTI hTO h1 h2 hsz hk => wpAny_pyIter_zip hz ?_
      have I2 : Inv X pins σ H1 { s1 with heap := h' } := I1.kept (t' := s1.toks) hk
      refine ⟨s1.heap.objs.size + 4, [s1.heap.objs.size + 4, s1.heap.objs.size + 2, s1.heap.objs.size + 3, s1.heap.objs.size, s1.heap.objs.size + 1], _, _, H1, rfl, I2,
        turn_zipS (t := t) (u := u) ⟨Nat.ne_of_lt (by show (_ : Nat) < _; omega), Nat.ne_of_lt (by show (_ : Nat) < _; omega), Nat.ne_of_lt (by show (_ : Nat) < _; omega), Nat.ne_of_gt (by show (_ : Nat) < _; omega), by simp, by simp, by simp, Nat.ne_of_gt (by show (_ : Nat) < _; omega), by simp, by simp, by simp, by simp, by simp⟩,
        ⟨hz, hTI, ⟨_, _, hTO⟩, ⟨_, h1, rfl, rfl⟩, ⟨_, h2, rfl, rfl⟩, Nat.zero_le _, Nat.zero_le _⟩, fun c hcm => ?_, q⟩
      have hle : s1.heap.objs.size ≤ c := by
        have e' : c = s1.heap.objs.size + 4 ∨ c = s1.heap.objs.size + 2 ∨ c = s1.heap.objs.size + 3 ∨ c = s1.heap.objs.size ∨ c = s1.heap.objs.size + 1 := by simpa using hcm
        rcases e' with z | z | z | z | z
        · rw [z]; exact lt
        · rw [z]; exact lt
        · rw [z]; exact lt
        · rw [z]; exact Nat.le_refl _
        · rw [z]; exact lt
      exact I1.fpOk hle (I1.hok.fresh hle)
end Ev
set_option maxHeartbeats 2000000
/-! Ev19: zip, max and min, except without a name. -/
namespace Ev
open PySem PySem.Spec PyProof.Rows L2

/-! ### zip of texts -/
def zipD (l m : List Nat) : List D := (l.zip m).map fun p => .tup [.str [p.1], .str [p.2]]
def iZip (f1 f2 : En → R Vl) : En → R Itm := fun ρ => (f1 ρ).bind fun x => (f2 ρ).bind fun y => match x.d, y.d with
  | .str l, .str m => .ok ⟨zipD l m, true, false⟩
  | _, _ => .bad
section
variable {X : Cx} {T : Tb} {W : WX} {a b : Expr} {f f1 f2 f3 : En → R Vl} {pos p tpos : Pos} {elts : List Expr} {kk : Nat}
theorem qi_zip (hg : Gl X "zip") (hm : X.mg "zip" = none) (ha : QE X T W a f1) (hb : QE X T W b f2) (hs : starEach [a, b] X.env = (false, eval a X.env) :: starEach [b] X.env := by rfl) (hs2 : starEach [b] X.env = (false, eval b X.env) :: starEach [] X.env := by rfl)
    (hpl : (backTo pos (starEach [b] X.env)).any (·.1) = false := by rfl) : QI X T W (.Tuple elts kk tpos) (.Call (.Name "zip" p) [a, b] [] pos) (iZip f1 f2) := by
  obtain ⟨ta, pa, ha⟩ := ha.ex
  obtain ⟨tb, pb, hb⟩ := hb.ex
  refine ⟨⟨_, pi_zipS hg hm (pa_cons pa (pa_cons pb pa_nil hs2) hs) hs hpl, fun F ρ σ H Rf Q h => ?_⟩⟩
  refine ha F ρ σ H Rf _ (h.bind stI fun x vx H1 _ e1 q1 h1 => ?_)
  refine hb F ρ σ H1 (Rf.mono e1) _ (h1.bind stI fun y vy H2 _ e2 q2 h2 => ?_)
  have R2 := Rf.mono (e1.trans e2)
  split at h2
  · rename_i l m hl hm'
    refine ⟨⟨l.toArray⟩, ⟨m.toArray⟩, ?_, h2 _ H2 (Ex.refl _) fun F' ρ' σ' H3 R' up hb i => ?_⟩
    · rw [str_of R2 (RepV.mono (Ex.refl _) e2 q1) hl, str_of R2 (RepV.mono e1 (Ex.refl _) q2) hm']
    refine ⟨fun d hd => ?_, fun hi => ?_⟩
    · unfold zipD at hd
      rw [List.getElem?_map] at hd
      obtain ⟨⟨c, c2⟩, hc, rfl⟩ := Option.map_eq_some_iff.mp hd
      have hlen := (List.getElem?_eq_some_iff.mp hc).1
      rw [List.length_zip] at hlen
      obtain ⟨hc1, hc2⟩ := List.getElem?_zip_eq_some.mp hc
      refine ⟨⟨by show i < l.toArray.size; simp; omega, by show i < m.toArray.size; simp; omega⟩, fun v H' hy => ?_⟩
      obtain ⟨T', c', d', rfl, hT, rfl, k1, k2⟩ := hy
      have g1 : c' = c := by
        have k1 : l.toArray[i]? = some c' := k1
        rw [List.getElem?_toArray, hc1] at k1
        exact (Option.some.inj k1).symm
      have g2 : d' = c2 := by
        have k2 : m.toArray[i]? = some d' := k2
        rw [List.getElem?_toArray, hc2] at k2
        exact (Option.some.inj k2).symm
      subst g1 g2
      have ex : Ex H3 (upd H3 T' (.tup [.str ⟨#[c']⟩, .str ⟨#[d']⟩])) := Ex.new hT
      exact ⟨ex, born_tup (Hs := H3) (f := true) R' hT ex upd_same (.cons _ _ _ _ (Rep.str [c']) (.cons _ _ _ _ (Rep.str [d']) .nil))⟩
    · have hi : (zipD l m).length ≤ i := hi
      unfold zipD at hi
      rw [List.length_map, List.length_zip] at hi
      show min l.toArray.size m.toArray.size ≤ i
      simpa using hi
  · exact h2.elim
end

/-! ### max, min of a list -/
def imax : List Int → Int
  | [] => 0
  | x :: r => r.foldl max x
def imin : List Int → Int
  | [] => 0
  | x :: r => r.foldl min x
theorem fmax_ge : ∀ (l : List Int) (x : Int), (l.foldl max x = x ∨ l.foldl max x ∈ l) ∧ x ≤ l.foldl max x ∧ ∀ y ∈ l, y ≤ l.foldl max x
  | [], x => ⟨.inl rfl, Int.le_refl _, fun y h => by simp at h⟩
  | z :: l, x => by
    obtain ⟨h1, h2, h3⟩ := fmax_ge l (max x z)
    rw [List.foldl_cons]
    refine ⟨?_, by omega, fun y hy => ?_⟩
    · rcases h1 with h1 | h1
      · rcases Int.le_total x z with k | k
        · exact .inr (by rw [h1, Int.max_eq_right k]; exact List.mem_cons_self ..)
        · exact .inl (by rw [h1, Int.max_eq_left k])
      · exact .inr (List.mem_cons_of_mem _ h1)
    · rcases List.mem_cons.mp hy with k | k
      · omega
      · exact h3 y k
theorem fmin_le : ∀ (l : List Int) (x : Int), (l.foldl min x = x ∨ l.foldl min x ∈ l) ∧ l.foldl min x ≤ x ∧ ∀ y ∈ l, l.foldl min x ≤ y
  | [], x => ⟨.inl rfl, Int.le_refl _, fun y h => by simp at h⟩
  | z :: l, x => by
    obtain ⟨h1, h2, h3⟩ := fmin_le l (min x z)
    rw [List.foldl_cons]
    refine ⟨?_, by omega, fun y hy => ?_⟩
    · rcases h1 with h1 | h1
      · rcases Int.le_total x z with k | k
        · exact .inl (by rw [h1, Int.min_eq_left k])
        · exact .inr (by rw [h1, Int.min_eq_right k]; exact List.mem_cons_self ..)
      · exact .inr (List.mem_cons_of_mem _ h1)
    · rcases List.mem_cons.mp hy with k | k
      · omega
      · exact h3 y k
theorem imax_ge : ∀ (l : List Int), l ≠ [] → imax l ∈ l ∧ ∀ y ∈ l, y ≤ imax l
  | [], h => absurd rfl h
  | x :: r, _ => by
    obtain ⟨h1, h2, h3⟩ := fmax_ge r x
    refine ⟨h1.elim (fun e => by show r.foldl max x ∈ _; rw [e]; exact List.mem_cons_self ..) (List.mem_cons_of_mem _), fun y hy => ?_⟩
    rcases List.mem_cons.mp hy with k | k
    · rw [k]; exact h2
    · exact h3 y k
theorem imin_le : ∀ (l : List Int), l ≠ [] → imin l ∈ l ∧ ∀ y ∈ l, imin l ≤ y
  | [], h => absurd rfl h
  | x :: r, _ => by
    obtain ⟨h1, h2, h3⟩ := fmin_le r x
    refine ⟨h1.elim (fun e => by show r.foldl min x ∈ _; rw [e]; exact List.mem_cons_self ..) (List.mem_cons_of_mem _), fun y hy => ?_⟩
    rcases List.mem_cons.mp hy with k | k
    · rw [k]; exact h2
    · exact h3 y k
def gMaxL : Vl → R Vl := fun x => ofO (seq? x.d) fun l => ofO (ints? l) fun ns => if ns = [] then .bad else sc (.int (imax ns))
def gMinL : Vl → R Vl := fun x => ofO (seq? x.d) fun l => ofO (ints? l) fun ns => if ns = [] then .bad else sc (.int (imin ns))
theorem snd_maxL {K : PySem.W.Frag} {T : Tb} : Snd1 K T (rMax K) gMaxL := fun F ρ σ W Hs H vx x Q Rf q1 hp => by
  obtain ⟨l, h1, hp⟩ := Pst.ofO hp
  obtain ⟨ns, h2, hp⟩ := Pst.ofO hp
  obtain ⟨p, vs, rfl, h3, h4⟩ := seq_of Rf q1 h1
  rw [ints?_eq h2] at h4
  rw [reps_ints h4] at h3
  by_cases hn : ns = []
  · rw [if_pos hn] at hp; exact hp.elim
  rw [if_neg hn] at hp
  refine ⟨p, ns, rfl, h3, List.length_pos_iff.mpr hn, fun m hm hM => ?_⟩
  obtain ⟨k1, k2⟩ := imax_ge ns hn
  have e : m = imax ns := Int.le_antisymm (k2 m hm) (hM _ k1)
  rw [e]
  exact hp _ H (Ex.refl _) (Rep.int _)
theorem snd_minL {K : PySem.W.Frag} {T : Tb} : Snd1 K T (rMin K) gMinL := fun F ρ σ W Hs H vx x Q Rf q1 hp => by
  obtain ⟨l, h1, hp⟩ := Pst.ofO hp
  obtain ⟨ns, h2, hp⟩ := Pst.ofO hp
  obtain ⟨p, vs, rfl, h3, h4⟩ := seq_of Rf q1 h1
  rw [ints?_eq h2] at h4
  rw [reps_ints h4] at h3
  by_cases hn : ns = []
  · rw [if_pos hn] at hp; exact hp.elim
  rw [if_neg hn] at hp
  refine ⟨p, ns, rfl, h3, List.length_pos_iff.mpr hn, fun m hm hM => ?_⟩
  obtain ⟨k1, k2⟩ := imin_le ns hn
  have e : m = imin ns := Int.le_antisymm (hM _ k1) (k2 m hm)
  rw [e]
  exact hp _ H (Ex.refl _) (Rep.int _)
/-- max(list, default=d) -/
def rMaxDf (K : PySem.W.Frag) : List V → List V → Hp → VK → Prop := fun vs zs H Q => ∃ (a : Addr) (ns : List Int) (d : Int), vs = [V.ref a] ∧ zs = [V.int d] ∧ SqL K H a (ns.map V.int) ∧ Q (.int (if ns = [] then d else imax ns)) H
theorem reads_ints {h : Heap} : ∀ {its : List Value} {ns : List Int}, Vals (ns.map V.int) its → ∃ as, ReadsAll h its (ns.map PyData.int) as
  | _, [], .nil => ⟨_, .nil⟩
  | _, n :: ns, .cons r rs => by
    obtain ⟨t, rfl⟩ := r
    obtain ⟨as, q⟩ := reads_ints (ns := ns) rs
    exact ⟨_, .cons (.int n t) q⟩
theorem alike_ints (ns : List Int) : PySem.W.AlikeAll (ns.map PyData.int) := by
  refine ⟨fun x hx y hy => ?_, fun x hx => ?_⟩
  · obtain ⟨i, _, rfl⟩ := List.mem_map.mp hx
    obtain ⟨j, _, rfl⟩ := List.mem_map.mp hy
    first | rfl | decide
  · obtain ⟨i, _, rfl⟩ := List.mem_map.mp hx
    exact fun z => nomatch z
theorem depth_ints : ∀ ns : List Int, PyData.depthAll (ns.map PyData.int) ≤ 1
  | [] => by simp [PyData.depthAll]
  | n :: ns => by
    have := depth_ints ns
    simp only [List.map_cons, PyData.depthAll, PyData.depth]
    omega
theorem cr_maxDf {X : Cx} (hc : X.calm = true) (hu : X.A.units + 64 < cLine) : CallRK X (.builtin "max") [("default" : Str)] (rMaxDf X.K) := by
  intro pins s σ H vs zs us ws Q I r rz h
  obtain ⟨a, ns, d, rfl, rfl, hs, q⟩ := h
  obtain ⟨its, rv, hl, _⟩ := I.list hs
  rw [Vals.ref1 r]
  obtain ⟨as, hr⟩ := reads_ints (h := s.heap) rv
  cases rz with
  | cons rd rn =>
  cases rn
  obtain ⟨t, rfl⟩ := rd
  refine PySem.W.max_list_default (I.ok.hd hc) hl.isList (by simpa using hr) (alike_ints ns) (by have := depth_ints ns; omega) (fun hn h' tk hk => ?_) fun y ys i v h' tk bs hy hv hrd hk => ?_
  · have hn : ns = [] := List.map_eq_nil_iff.mp hn
    rw [if_pos hn] at q
    exact ⟨.int d, H, I.kept hk, ⟨_, rfl⟩, q⟩
  · cases ns with
    | nil => cases hy
    | cons n ns =>
      cases hy
      rw [PySem.W.maxD_ints] at hrd
      rw [if_neg (by simp)] at q
      cases hrd
      exact ⟨.int _, H, I.kept hk, ⟨_, rfl⟩, q⟩
def gMaxDf : Vl → Vl → R Vl := fun x y => ofO (seq? x.d) fun l => ofO (ints? l) fun ns => ofO (int? y) fun d => sc (.int (if ns = [] then d else imax ns))
section
variable {X : Cx} {T : Tb} {W : WX} {a b c : Expr} {f1 f2 f3 : En → R Vl} {pos p : Pos} {kw : List Keyword} {fz : En → R (List Vl)} {x : Str}
/-- max(e, default=d) -/
def eMaxDf (f : En → R Vl) (fz : En → R (List Vl)) : En → R Vl := fun ρ => (f ρ).bind fun x => (fz ρ).bind fun zs => match zs with
  | [y] => gMaxDf x y
  | _ => .bad
theorem q_maxDf (hcalm : X.calm = true) (hu : X.A.units + 64 < cLine) (hg : Gl X "max") (hm : X.mg "max" = none) (hv : bootBuiltins "max" = some (.builtin "max")) (ha : QE X T W a f1) (hk : QK X T W kw fz)
    (he : backTo pos (starEach [a] X.env) = (false, eval a X.env) :: backTo pos (starEach [] X.env) := by rfl) (hpl : NoStar X pos [a] := by rfl)
    (hall : (backToKw pos (keywordEach kw X.env)).all (·.1.isSome) = true := by rfl) (hnone : (backToKw pos (keywordEach kw X.env)).any (·.1.isNone) = false := by rfl) (hks : (backToKw pos (keywordEach kw X.env)).filterMap (·.1) = [("default" : Str)] := by rfl) (hs : starEach [a] X.env = (false, eval a X.env) :: starEach [] X.env := by rfl) :
    QE X T W (.Call (.Name "max" p) [a] kw pos) (eMaxDf f1 fz) := by
  obtain ⟨ta, pa, ha⟩ := ha.ex
  obtain ⟨tz, pz, hz⟩ := hk.ex
  refine ⟨⟨_, pe_callBK (cr_maxDf hcalm hu) hg hm hv (pa_cons pa pa_nil hs) pz (by decide) (by decide) he hpl hall hnone hks, fun F ρ σ H Rf Q h => ?_⟩⟩
  refine ha F ρ σ H Rf _ (h.bind (stE _) fun x vx H1 _ e1 q1 h1 => ?_)
  refine hz F ρ σ H1 (Rf.mono e1) _ (h1.bind (stE _) fun zs vz H2 _ e2 q2 h2 => ?_)
  have R2 := Rf.mono (e1.trans e2)
  split at h2
  · rename_i y
    obtain ⟨l, k1, h2⟩ := Pst.ofO h2
    obtain ⟨ns, k2, h2⟩ := Pst.ofO h2
    obtain ⟨d, k3, h2⟩ := Pst.ofO h2
    obtain ⟨p, vs, rfl, k4, k5⟩ := seq_of R2 (RepV.mono (Ex.refl _) e2 q1) k1
    rw [ints?_eq k2] at k5
    rw [reps_ints k5] at k4
    cases q2 with
    | cons v _ vs' _ r rr =>
      cases rr
      have e := int_of R2 (RepV.mono e1 (Ex.refl _) r) (int?_eq k3)
      subst e
      exact ⟨p, ns, d, rfl, rfl, k4, h2 _ H2 (Ex.refl _) (Rep.int _)⟩
  · exact h2.elim
/-- max, min of three ints -/
def e3 (g : Vl → Vl → Vl → R Vl) (f1 f2 f3 : En → R Vl) : En → R Vl := fun ρ => (f1 ρ).bind fun x => (f2 ρ).bind fun y => (f3 ρ).bind fun z => g x y z
def gMax3 : Vl → Vl → Vl → R Vl := fun x y z => ofO (int? x) fun i => ofO (int? y) fun j => ofO (int? z) fun k => sc (.int (max (max i j) k))
theorem nu3 (i j k : Int) : nuMax3 (.int i) (.int j) (.int k) = some (.int (max (max i j) k)) := by
  have h2 : ∀ i j : Int, nuMax2 (.int i) (.int j) = some (.int (max i j)) := fun i j => by
    show (some (decide (i < j))).map (fun c => if c = true then V.int j else V.int i) = _
    rw [Option.map_some]
    by_cases h : i < j
    · rw [decide_eq_true h, if_pos rfl, Int.max_eq_right (by omega)]
    · rw [decide_eq_false h, if_neg (by decide), Int.max_eq_left (by omega)]
  unfold nuMax3
  rw [h2]
  exact h2 _ _
theorem q_max3 (hcalm : X.calm = true) (hg : Gl X "max") (hm : X.mg "max" = none) (hv : bootBuiltins "max" = some (.builtin "max")) (ha : QE X T W a f1) (hb : QE X T W b f2) (hc : QE X T W c f3)
    (s1 : starEach [a, b, c] X.env = (false, eval a X.env) :: starEach [b, c] X.env := by rfl) (s2 : starEach [b, c] X.env = (false, eval b X.env) :: starEach [c] X.env := by rfl) (s3 : starEach [c] X.env = (false, eval c X.env) :: starEach [] X.env := by rfl)
    (hpl : NoStar X pos [b, c] := by rfl) : QE X T W (.Call (.Name "max" p) [a, b, c] [] pos) (e3 gMax3 f1 f2 f3) := by
  obtain ⟨ta, pa, ha⟩ := ha.ex
  obtain ⟨tb, pb, hb⟩ := hb.ex
  obtain ⟨tc, pc, hc⟩ := hc.ex
  refine ⟨⟨_, pe_callB (call_max3Nu hcalm) hg hm hv (pa_cons pa (pa_cons pb (pa_cons pc pa_nil s3) s2) s1) (by decide) (by decide) s1 hpl, fun F ρ σ H Rf Q h => ?_⟩⟩
  refine ha F ρ σ H Rf _ (h.bind (stE _) fun x vx H1 _ e1 q1 h1 => ?_)
  refine hb F ρ σ H1 (Rf.mono e1) _ (h1.bind (stE _) fun y vy H2 _ e2 q2 h2 => ?_)
  refine hc F ρ σ H2 (Rf.mono (e1.trans e2)) _ (h2.bind (stE _) fun z vz H3 _ e3 q3 h3 => ?_)
  obtain ⟨i, k1, h3⟩ := Pst.ofO h3
  obtain ⟨j, k2, h3⟩ := Pst.ofO h3
  obtain ⟨k, k3, h3⟩ := Pst.ofO h3
  have R3 := Rf.mono (e1.trans (e2.trans e3))
  have g1 := int_of R3 (RepV.mono (Ex.refl _) (e2.trans e3) q1) (int?_eq k1)
  have g2 := int_of R3 (RepV.mono e1 e3 q2) (int?_eq k2)
  have g3 := int_of R3 (RepV.mono (e1.trans e2) (Ex.refl _) q3) (int?_eq k3)
  subst g1 g2 g3
  exact ⟨.int i, .int j, .int k, _, rfl, nu3 i j k, h3 _ H3 (Ex.refl _) (Rep.int _)⟩
end

/-! ### except without a name -/
def outTryO (o : Out) : Out := match o with
  | .next ρ => if noEx ρ = true then .next ρ else .bad
  | .ret a => .ret a
  | .brk ρ => if noEx ρ = true then .brk ρ else .bad
  | .cont ρ => if noEx ρ = true then .cont ρ else .bad
  | _ => .bad
def sTryO (hit : Nat → Option Bool) (g1 g2 : En → Out) : En → Out := fun ρ => match g1 ρ with
  | .exc ρ1 c l => (match hit c with
    | some true => if noEx ρ1 = true then outTryO (g2 ρ1) else .bad
    | some false => .exc ρ1 c l
    | none => .bad)
  | o => o
theorem s_tryO {X : Cx} {T : Tb} {W : WX} {x : Str} {cv : Value} {body suite : List Stmt} {b₀ : Stmt} {np pos pos' : Pos} {g1 g2 : En → Out} (hit : Nat → Option Bool) (hh : ∀ c b, hit c = some b → PySem.W.exmOne X.K (.ref (T.ca c)) cv = some b)
    (hs : X.stack = X.env :: X.outer) (hf : X.env.frame = some X.env.locals) (hc : Names X x cv) (tk : Takes X W)
    (hb : ∀ (W : WX) (pn : List (Addr × Obj)) (xe : Value → Shared → Prop), Takes (X.tr pn xe) W → PassesOwn (model X.prog X.w) X.A X.env xe → QSs (X.tr pn xe) T W body g1)
    (hsu : ∀ (a : Addr) (oe : Obj) (cls : Value) (d : Option Addr) (pn : List (Addr × Obj)), Zc cls d oe → (∃ vs, oe.data = .fields vs) → QSs (X.suite a ((a, oe) :: pn)) (T.ex a cls d) W0 (b₀ :: suite) g2) :
    QS X T W (.Try body [.ExceptHandler (some (.Name x np)) none (b₀ :: suite) pos'] [] [] pos) (sTryO hit g1 g2) := by
  refine ⟨⟨_, ps_try_only (tb := fun W => canS X.K T W g1) (ts := fun a cls d => canS X.K (T.ex a cls d) W0 g2) hs hf hc tk (fun W pn xe tk po => (hb W pn xe tk po).can) (fun a oe cls d pn hz hv => (hsu a oe cls d pn hz hv).can), fun F ρ σ H Rf E h => ?_⟩⟩
  refine ⟨F, ρ, Rf, ?_⟩
  unfold sTryO at h
  cases ho : g1 ρ with
  | next ρ1 => rw [ho] at h; exact h
  | ret a => rw [ho] at h; exact h
  | brk ρ1 => rw [ho] at h; exact h
  | cont ρ1 => rw [ho] at h; exact h
  | bad => rw [ho] at h; exact h
  | exc ρ1 c l =>
  rw [ho] at h
  change PO X.K T F W (visB F ρ σ H) (match hit c with
    | some true => if noEx ρ1 = true then outTryO (g2 ρ1) else .bad
    | some false => .exc ρ1 c l
    | none => .bad) E at h
  intro dd σ1 H1 R1 e1 q1
  cases hk : hit c with
  | none => rw [hk] at h; exact h.elim
  | some b =>
  rw [hk] at h
  refine ⟨b, hh c b hk, fun hbt a hna => ?_, fun hbf => ?_⟩
  · subst hbt
    change PO X.K T F W (visB F ρ σ H) (if noEx ρ1 = true then outTryO (g2 ρ1) else .bad) E at h
    by_cases hn : noEx ρ1 = true
    · rw [if_pos hn] at h
      refine ⟨F, ρ1, Fm.tb (T := T) (T' := T.ex a (.ref (T.ca c)) dd) rfl rfl hn R1, ?_⟩
      have up : ∀ {ρ2 : En} {σ' : L2.St} {H' : Hp}, noEx ρ2 = true → Fm X.K (T.ex a (.ref (T.ca c)) dd) F ρ2 σ' H' → Fm X.K T F ρ2 σ' H' := fun hn2 R4 => Fm.tb (T := T.ex a (.ref (T.ca c)) dd) (T' := T) rfl rfl hn2 R4
      cases hg : g2 ρ1 with
      | next ρ2 =>
        rw [hg] at h
        change PO X.K T F W (visB F ρ σ H) (if noEx ρ2 = true then .next ρ2 else .bad) E at h
        by_cases hn2 : noEx ρ2 = true
        · rw [if_pos hn2] at h
          exact fun σ' H' R4 e4 => h _ _ (up hn2 R4) (e1.trans e4)
        · rw [if_neg hn2] at h; exact h.elim
      | brk ρ2 =>
        rw [hg] at h
        change PO X.K T F W (visB F ρ σ H) (if noEx ρ2 = true then .brk ρ2 else .bad) E at h
        by_cases hn2 : noEx ρ2 = true
        · rw [if_pos hn2] at h
          exact fun σ' H' R4 e4 => h _ _ (up hn2 R4) (e1.trans e4)
        · rw [if_neg hn2] at h; exact h.elim
      | cont ρ2 =>
        rw [hg] at h
        change PO X.K T F W (visB F ρ σ H) (if noEx ρ2 = true then .cont ρ2 else .bad) E at h
        by_cases hn2 : noEx ρ2 = true
        · rw [if_pos hn2] at h
          exact fun σ' H' R4 e4 => h _ _ (up hn2 R4) (e1.trans e4)
        · rw [if_neg hn2] at h; exact h.elim
      | ret a2 =>
        rw [hg] at h
        exact fun v H' e r => h v H' e (Rep.tb (T := T.ex a (.ref (T.ca c)) dd) (T' := T) rfl rfl r)
      | exc ρ2 c2 l2 => rw [hg] at h; exact h.elim
      | bad => rw [hg] at h; exact h.elim
    · rw [if_neg hn] at h; exact h.elim
  · subst hbf
    exact h dd σ1 H1 R1 e1 q1
end Ev
set_option maxHeartbeats 4000000
/-! Ev20: sorted(set(..)) of ints, gcd and lcm, count, int of a sign. -/
namespace Ev
open PySem PySem.Spec PyProof.Rows L2

/-! ### set(list of ints) -/
section
variable {P : Program} {w : World} {A : Around} {E : Value → Shared → Prop} {s : Shared}
abbrev nsO (w : World) : Obj := { cls := .type "set", dict := none, data := .set #[] 0 (.fresh 0 0 (!w.params.followText "set-order")) }
/-- what a set's update leaves -/
def SetMade (w : World) (s : Shared) (ns : List Int) (s₂ : Shared) : Prop := ∃ (h' : Heap) (tk c : Nat), s₂ = { s with heap := h', toks := tk } ∧ SetR w h' s.heap.objs.size (fun j => decide (j ∈ ns)) c ∧ c ≤ ns.length ∧ ∀ b o, s.heap.get? b = some o → h'.get? b = some o
theorem call_set_lstI {l : Addr} {items : Array Value} (ns : List Int) {Q : Value → Shared → Prop} (hh : A.handled = none) (hl : s.heap.IsList l items) (hit : IntsAre items.toList ns) (hb : ns.length + 1 < scanBound)
    (h : ∀ s₂, SetMade w s ns s₂ → Q (.ref s.heap.objs.size) s₂) : wpAny (model P w) A (call (.type "set") [.ref l]) Q E s := by
  have hisz : items.size = ns.length := (Array.length_toList (xs := items)).symm.trans hit.length
  obtain ⟨c, tl, hmro⟩ := F.called_set.mro
  have hmade := F.called_set.made
  have hsub := F.called_set.sub
  refine wpAny_call (codeAny_of_tree ?_)
  show wpAny _ _ (callAny (.type "set") _) _ _ _
  refine wpAny_pure ⟨Code.quiet_builtin _ (by decide +kernel), codeAny_builtin F.entry_type_call ?_⟩
  rw [Around.under_plain (weight_type_call_type "set" [.ref l] []) rfl]
  have h1 := F.called_set.notType
  have h2 := F.called_set.canCreate
  have hct := F.typeCall_set_1 (.ref l)
  repeat (any_goals (first | assumption | wp_step))
  refine codeAny_mono (code_set_led1 (.ref l) (E := E) (Q₁ := fun obj s₁ => obj = .ref s.heap.objs.size ∧ s₁ = { s with heap := s.heap.push (nsO w) }) ⟨rfl, rfl⟩) fun r s₁ hr => ?_
  match r, hr with
  | .error e, hr => exact hr
  | .ok (.ret obj), hr =>
    obtain ⟨rfl, rfl⟩ := hr
    have hS : (s.heap.push (nsO w)).get? s.heap.objs.size = some (nsO w) := Heap.get?_push_size _ rfl
    have hT : Shared.TypeIs { s with heap := s.heap.push (nsO w) } (.ref s.heap.objs.size) "set" := ⟨_, hS, rfl⟩
    have hli := F.called_set.init.lookup
    have hbi := F.called_set.init.bind (.ref s.heap.objs.size)
    repeat (any_goals (first | assumption | wp_step))
    refine codeAny_mono (codeAny_call_builtin (R := wants (fun r s₂ => r = .none ∧ SetMade w s ns s₂) E) F.called_set.init.plain F.entry_set_init (check_set_init_1 hT ?_)) fun r₂ s₂ hr₂ => ?_
    · obtain ⟨⟨ocls, odict, odata, oslots⟩, hol, hcl, nl, hdl⟩ := hl
      simp only at hcl hdl
      subst hcl hdl
      have hol' : (s.heap.push (nsO w)).get? l = some { cls := .type "list", dict := odict, data := .seq items nl, slots := oslots } := Heap.get?_push_of_some _ hol
      have hsls := F.sub_list_set
      have hslf := F.sub_list_frozenset
      have hne : (Value.type "list" == Value.type "dict") = false := by decide
      have hl1 : (s.heap.push (nsO w)).IsList l items := ⟨_, hol', rfl, nl, rfl⟩
      unfold Builtin.«set.__init__» noKeywords Builtin.Frozenset.updateFrom
      generalize hPI : pyIter = PI
      wp_walk
      subst hPI
      refine wpAny_pyIter_list hl1 (wpAny_bind (wpAny_runValue ?_))
      have hlS : l < s.heap.objs.size := Heap.lt_size hol
      have hh3 : A.in1.in1.in1.handled = none := hh
      have hneI : l ≠ (s.heap.push (nsO w)).objs.size := by
        rw [Heap.size_push]
        exact Nat.ne_of_lt (Nat.lt_succ_of_lt hlS)
      have hSf : s.heap.objs.size ∉ [(s.heap.push (nsO w)).objs.size, l] := by
        rw [Heap.size_push, List.mem_cons, List.mem_singleton]
        exact fun z => z.elim (Nat.ne_of_lt (Nat.lt_succ_self _)) (Nat.ne_of_gt hlS)
      have hval : ∀ (i : Nat) (v : Value), items[i]? = some v → ∃ k t, ns[i]? = some k ∧ v = .int k t := fun i v hv => by
        have hi : i < ns.length := by rw [← hisz]; exact (Array.getElem?_eq_some_iff.mp hv).1
        obtain ⟨t, e⟩ := IntsAre.int_at hit i v (by rw [Array.getElem?_toList]; exact hv)
        exact ⟨ns[i], t, List.getElem?_eq_getElem hi, by rw [e, List.getD_eq_getElem?_getD, List.getElem?_eq_getElem hi]; rfl⟩
      refine set_update_ints ((Walks.list hh3 _ l hneI items).toS) s.heap.objs.size hSf ns hisz hb hval (items.size - 0) 0 _ (by omega) (Nat.zero_le _)
        ⟨⟨_, Heap.get?_push_size _ rfl, rfl, rfl⟩, hl1.push _⟩ ⟨0, Nat.le_refl 0, setR_new_at (Heap.get?_push_of_some _ hS)⟩ fun s' c' hm hc' hS' => ?_
      obtain ⟨h', g2, d', tk', os'⟩ := s'
      have eg : g2 = s.gens := hm.gens
      have ed : d' = s.drawn := hm.drawn
      have eo : os' = s.os := hm.os
      subst eg ed eo
      rw [hisz] at hc'
      refine wpAny_pure (wpAny_pure ⟨rfl, h', tk', c', rfl, hS', hc', fun b o e => ?_⟩)
      have hb0 : b < s.heap.objs.size := Heap.lt_size e
      refine hm.heap b o (fun z => ?_) (Heap.get?_push_of_some _ (Heap.get?_push_of_some _ e))
      rcases List.mem_cons.mp z with z | z
      · exact Nat.ne_of_lt hb0 z
      · have z := List.mem_singleton.mp z
        rw [Heap.size_push] at z
        exact Nat.ne_of_lt (Nat.lt_succ_of_lt hb0) z
    · match r₂, hr₂ with
      | .error e, hr₂ => exact hr₂
      | .ok (.ret r), hr₂ =>
        obtain ⟨rfl, hm⟩ := hr₂
        have hQ := h _ hm
        obtain ⟨h', tk, c', rfl, _⟩ := hm
        repeat (any_goals (first | assumption | wp_step))
end
/-- set(e), ints -/
def rSetI (K : PySem.W.Frag) (w : World) : List V → Hp → VK → Prop := fun xs H Q => ∃ (p : Addr) (ns : List Int), xs = [V.ref p] ∧ (SqL K H p (ns.map V.int) ∨ SqT K H p (ns.map V.int)) ∧ ns.length < 64 ∧ ∀ q c, H q = none → c ≤ ns.length → Q (.ref q) (upd H q (SetO w q (fun j => decide (j ∈ ns)) c))
theorem cr_setI {X : Cx} (hc : X.calm = true) : CallR X (.type "set") (rSetI X.K X.w) := by
  intro pins s σ H xs us Q I r h
  obtain ⟨p, ns, rfl, hs, h64, q⟩ := h
  rw [Vals.ref1 r]
  have hb : ns.length + 1 < scanBound := by
    have : (65 : Nat) ≤ scanBound := by decide
    omega
  have fin : ∀ {h' : Heap} {tk c : Nat}, SetR X.w h' s.heap.objs.size (fun j => decide (j ∈ ns)) c → c ≤ ns.length → (∀ b o, s.heap.get? b = some o → h'.get? b = some o) → EP X pins σ Q (.ref s.heap.objs.size) { s with heap := h', toks := tk } := fun {h' tk c} hR hc' hk =>
    ⟨.ref _, _, I.laid (t' := tk) hk (Nat.le_refl _) (setO_new hR), rfl, q _ c (I.hok.fresh (Nat.le_refl _)) hc'⟩
  rcases hs with hs | hs
  · obtain ⟨its, rv, hl, _⟩ := I.list hs
    refine call_set_lstI ns (I.ok.hd hc) hl.isList (by simpa using rv.ints) hb fun s₂ hm => ?_
    obtain ⟨h', tk, c, rfl, hR, hc', hk⟩ := hm
    exact fin hR hc' hk
  · obtain ⟨its, rv, hl, _⟩ := I.tuple hs
    exact call_set_tupI ns (I.ok.hd hc) (show s.heap.IsTuple p its.toArray from hl) (by simpa using rv.ints) hb fun h' tk c hR hc' hk => fin hR hc' hk
end Ev
set_option maxHeartbeats 2000000
/-! Ev21: evaluators for these. -/
namespace Ev
open PySem PySem.Spec PyProof.Rows L2

/-! ### sorted(set(e)) -/
/-- one more member of a strictly ascending list -/
def insS (i : Int) : List Int → List Int
  | [] => [i]
  | j :: r => if i < j then i :: j :: r else if i = j then j :: r else j :: insS i r
def sset : List Int → List Int
  | [] => []
  | i :: r => insS i (sset r)
theorem insS_mem {i k : Int} : ∀ {l : List Int}, k ∈ insS i l ↔ k = i ∨ k ∈ l
  | [] => by simp [insS]
  | j :: r => by
    unfold insS
    split
    · simp
    · split
      · rename_i h
        subst h
        simp
      · rw [List.mem_cons, insS_mem, List.mem_cons]
        constructor
        · rintro (h | h | h) <;> simp [h]
        · rintro (h | h | h) <;> simp [h]
theorem insS_sorted {i : Int} : ∀ {l : List Int}, l.Pairwise (· < ·) → (insS i l).Pairwise (· < ·)
  | [], _ => by simp [insS]
  | j :: r, h => by
    obtain ⟨h1, h2⟩ := List.pairwise_cons.mp h
    unfold insS
    split
    · rename_i hij
      refine List.pairwise_cons.mpr ⟨fun k hk => ?_, h⟩
      rcases List.mem_cons.mp hk with z | z
      · omega
      · have := h1 k z; omega
    · split
      · exact h
      · refine List.pairwise_cons.mpr ⟨fun k hk => ?_, insS_sorted h2⟩
        rcases insS_mem.mp hk with z | z
        · omega
        · exact h1 k z
theorem sset_mem {k : Int} : ∀ {l : List Int}, k ∈ sset l ↔ k ∈ l
  | [] => by simp [sset]
  | i :: r => by
    unfold sset
    rw [insS_mem, sset_mem, List.mem_cons]
theorem sset_sorted : ∀ (l : List Int), (sset l).Pairwise (· < ·)
  | [] => by simp [sset]
  | i :: r => insS_sorted (sset_sorted r)
/-- a strictly ascending list is told by its members -/
theorem asc_eq : ∀ {l m : List Int}, l.Pairwise (· < ·) → m.Pairwise (· < ·) → (∀ k, k ∈ l ↔ k ∈ m) → l = m
  | [], [], _, _, _ => rfl
  | [], j :: m, _, _, h => absurd ((h j).mpr (List.mem_cons_self ..)) (by simp)
  | i :: l, [], _, _, h => absurd ((h i).mp (List.mem_cons_self ..)) (by simp)
  | i :: l, j :: m, hl, hm, h => by
    obtain ⟨l1, l2⟩ := List.pairwise_cons.mp hl
    obtain ⟨m1, m2⟩ := List.pairwise_cons.mp hm
    have e : i = j := by
      rcases List.mem_cons.mp ((h i).mp (List.mem_cons_self ..)) with a | a
      · exact a
      · rcases List.mem_cons.mp ((h j).mpr (List.mem_cons_self ..)) with b | b
        · exact b.symm
        · have := m1 i a; have := l1 j b; omega
    subst e
    rw [asc_eq l2 m2 fun k => ?_]
    constructor
    · intro hk
      rcases List.mem_cons.mp ((h k).mp (List.mem_cons_of_mem _ hk)) with a | a
      · have := l1 k hk; omega
      · exact a
    · intro hk
      rcases List.mem_cons.mp ((h k).mpr (List.mem_cons_of_mem _ hk)) with a | a
      · have := m1 k hk; omega
      · exact a
def gSset : Vl → R Vl := fun x => ofO (items? x.d) fun l => ofO (ints? l) fun ns => if ns.length < 64 then .ok ⟨.lst ((sset ns).map D.int), .nw, true⟩ else .bad
section
variable {X : Cx} {T : Tb} {W : WX} {a b : Expr} {f f1 f2 : En → R Vl} {pos p : Pos} {p2 pos2 : Pos}
theorem q_sset (hc : X.calm = true) (hg : Gl X "sorted") (hm : X.mg "sorted" = none) (hg2 : Gl X "set") (hm2 : X.mg "set" = none) (hv : bootBuiltins "sorted" = some (.builtin "sorted")) (hv2 : bootBuiltins "set" = some (.type "set")) (ha : QE X T W a f)
    (s1 : ArgsPlain X (.Call (.Name "set" p2) [a] [] pos2) [] := by rfl) (s2 : ArgsPlain X a [] := by rfl) (hpl : NoStar X pos [] := by rfl) (hpl2 : NoStar X pos2 [] := by rfl) :
    QE X T W (.Call (.Name "sorted" p) [.Call (.Name "set" p2) [a] [] pos2] [] pos) (e1 gSset f) := by
  obtain ⟨ta, pa, ha⟩ := ha.ex
  refine ⟨⟨_, pe_callB (cr_sortedSet hc) hg hm hv (pa_cons (pe_callTy (cr_setI hc) hg2 hm2 hv2 (pa_cons pa pa_nil s2) (by decide) (by decide) s2 hpl2) pa_nil s1) (by decide) (by decide) s1 hpl, fun F ρ σ H Rf Q h => ?_⟩⟩
  refine ha F ρ σ H Rf _ (h.bind (stE _) fun x vx H1 _ e1 q1 h1 => ?_)
  obtain ⟨l, k1, h1⟩ := Pst.ofO h1
  obtain ⟨ns, k2, h1⟩ := Pst.ofO h1
  by_cases hn : ns.length < 64
  · rw [if_pos hn] at h1
    have R1 := Rf.mono e1
    obtain ⟨q, vs, rfl, k3, k4⟩ := items_of R1 q1 k1
    rw [ints?_eq k2] at k4
    rw [reps_ints k4] at k3
    refine ⟨q, ns, rfl, k3, hn, fun u c hu hc' => ⟨u, _, c, rfl, upd_same, by omega, fun ms r h2 h3 _ hr => ?_⟩⟩
    have e : ms = sset ns := asc_eq h2 (sset_sorted ns) fun k => by rw [h3, decide_eq_true_iff, sset_mem]
    subst e
    have x1 : Ex H1 (upd H1 u (SetO X.w u (fun j => decide (j ∈ ns)) c)) := Ex.new hu
    have x2 := x1.trans (Ex.new (o := HO.lst ((sset ns).map V.int)) hr)
    refine h1 _ _ x2 (born_lst (Hs := H1) R1 ?_ x2 upd_same (int_reps _) (Ex.refl _))
    exact x1.fresh hr
  · rw [if_neg hn] at h1
    exact h1.elim

/-! ### gcd, lcm -/
def rLcm : List V → Hp → VK → Prop := fun vs H Q => ∃ a b : Int, vs = [.int a, .int b] ∧ a.natAbs < 18446744073709551616 ∧ b.natAbs < 18446744073709551616 ∧ Q (.int ((Nat.lcm a.natAbs b.natAbs : Nat) : Int)) H
theorem cr_lcm : CallR X (.builtin "math.lcm") rLcm := by
  intro pins s σ H vs us Q I r h
  obtain ⟨a, b, rfl, ha, hb, q⟩ := h
  obtain ⟨t, u, rfl⟩ := Vals.int2 r
  exact PySem.W.mc_lcm ha hb fun _ => ⟨.int _, H, I.tok _, ⟨_, rfl⟩, q⟩
def gGcd := iop fun i j => some ((Nat.gcd i.natAbs j.natAbs : Nat) : Int)
def gLcm := iop fun i j => if i.natAbs < 18446744073709551616 ∧ j.natAbs < 18446744073709551616 then some ((Nat.lcm i.natAbs j.natAbs : Nat) : Int) else none
theorem iop_of {K : PySem.W.Frag} {F : Fp} {ρ : En} {σ : L2.St} {W : WX} {Hs H : Hp} {vx vy : V} {x y : Vl} {Q : VK} {g : Int → Int → Option Int} (Rf : Fm K T F ρ σ H) (q1 : RepV K T F ρ σ vx x Hs H) (q2 : RepV K T F ρ σ vy y Hs H) (h : Pst ⟨K, T, F, ρ, σ, W⟩ (relE ⟨K, T, F, ρ, σ, W⟩) (iop g x y) H Q) :
    ∃ i j k : Int, vx = .int i ∧ vy = .int j ∧ g i j = some k ∧ Q (.int k) H := by
  unfold iop at h
  split at h
  · rename_i i j hi hj
    obtain ⟨k, hk, h⟩ := Pst.ofO h
    exact ⟨i, j, k, int_of Rf q1 hi, int_of Rf q2 hj, hk, h _ H (Ex.refl _) (Rep.int _)⟩
  · exact h.elim
theorem snd_gcd {K : PySem.W.Frag} : Snd2 K T rGcd gGcd := fun F ρ σ W Hs H vx vy x y Q Rf q1 q2 h => by
  obtain ⟨i, j, k, rfl, rfl, e, q⟩ := iop_of Rf q1 q2 h
  cases e
  exact ⟨i, j, rfl, q⟩
theorem snd_lcm {K : PySem.W.Frag} : Snd2 K T rLcm gLcm := fun F ρ σ W Hs H vx vy x y Q Rf q1 q2 h => by
  obtain ⟨i, j, k, rfl, rfl, e, q⟩ := iop_of Rf q1 q2 h
  split at e
  · rename_i hb
    cases e
    exact ⟨i, j, rfl, hb.1, hb.2, q⟩
  · cases e
/-- a built-in function that the module has imported -/
theorem q_F2 {id : String} {r : List V → Hp → VK → Prop} {g : Vl → Vl → R Vl} {x : Str} (hc : CallR X (.builtin id) r) (hs : Snd2 X.K T r g) (hg : Gl X x) (hm : X.mg x = some (.builtin id)) (ha : QE X T W a f1) (hb : QE X T W b f2)
    (hdb : NotDbg x := by decide) (s1 : ArgsPlain X a [b] := by rfl) (s2 : ArgsPlain X b [] := by rfl) (hpl : NoStar X pos [b] := by rfl) : QE X T W (.Call (.Name x p) [a, b] [] pos) (e2 g f1 f2) := by
  obtain ⟨ta, pa, ha⟩ := ha.ex
  obtain ⟨tb, pb, hb⟩ := hb.ex
  exact ⟨⟨_, pe_callBfun hc hg hm (pa_cons pa (pa_cons pb pa_nil s2) s1) hdb s1 hpl, snd2_te hs ha hb⟩⟩

/-! ### count of a sign, int of a sign -/
def gCount : Vl → Vl → R Vl := fun x y => match x.d, y.d with
  | .str l, .str [c] => sc (.int (l.count c))
  | _, _ => .bad
/-- an int or a truth value, or a text of one digit -/
def gIntA : Vl → R Vl := fun x => match x.d with
  | .str [c] => if 48 ≤ c ∧ c ≤ 57 then sc (.int ((c : Int) - 48)) else .bad
  | _ => gInt x
theorem intText_digit {c : Nat} (h1 : 48 ≤ c) (h2 : c ≤ 57) : PySem.intText? ⟨#[c]⟩ = some ((c : Int) - 48) := by
  have : c = 48 ∨ c = 49 ∨ c = 50 ∨ c = 51 ∨ c = 52 ∨ c = 53 ∨ c = 54 ∨ c = 55 ∨ c = 56 ∨ c = 57 := by omega
  rcases this with rfl | rfl | rfl | rfl | rfl | rfl | rfl | rfl | rfl | rfl <;> decide +kernel
def rIntA : List V → Hp → VK → Prop := fun xs H Q => ((∃ i, xs = [V.int i] ∧ Q (.int i) H) ∨ ∃ k, xs = [V.bl k] ∧ Q (.int (if k then 1 else 0)) H) ∨ ∃ a n, xs = [V.str a] ∧ PySem.intText? a = some n ∧ a.length ≤ 640 ∧ Q (.int n) H
theorem call_intA : CallR X (.type "int") rIntA := CallR.or call_int1 call_int_str
theorem snd_intA {K : PySem.W.Frag} : Snd1 K T rIntA gIntA := fun F ρ σ W Hs H vx x Q Rf q1 hp => by
  unfold gIntA at hp
  split at hp
  · rename_i c hc
    split at hp
    · rename_i hd
      exact .inr ⟨⟨#[c]⟩, _, by rw [str_of Rf q1 hc], intText_digit hd.1 hd.2, by show (1 : Nat) ≤ 640; decide, hp _ H (Ex.refl _) (Rep.int _)⟩
    · exact hp.elim
  · exact .inl (snd_int F ρ σ W Hs H vx x Q Rf q1 hp)
end
end Ev
set_option maxHeartbeats 2000000
/-! Ev22: own operators by the defs' names. -/
namespace Ev
open PySem PySem.Spec PyProof.Rows L2
section
variable {X : Cx} {T : Tb} {W : WX} {k kb : Nat} {f : Addr} {ps : List Str} {Φ : Sm} {c : Nat}
theorem DF.un {n : Nat} (D : DF X.K X.mg f ps [] k (spD X.K T n Φ)) : ∃ fd : FuncData, Binds X.K fd ps [] ∧ FnOk X.prog X.w X.K X.mg X.base (L2.CX X.prog X.w) k f fd ps (spD X.K T n Φ) := by
  obtain ⟨fd, us, h1, h2, h3, h4⟩ := D.ex
  cases h3
  exact ⟨fd, h2, h4 X.prog X.w X.base⟩
theorem d_in (D : DF X.K X.mg f ps [] k (spD X.K T 2 Φ)) (hm : Meth X.K (T.ca c) "__contains__" f) (hr : Room kb X.A) (hle : k ≤ kb := by decide) : OpR X (compareOp .In) (rInO (T.ca c) (spD X.K T 2 Φ) id) := by
  obtain ⟨fd, h2, h4⟩ := D.un
  exact op_inO h4 (hr.mono hle) h2 hm
theorem d_nin (D : DF X.K X.mg f ps [] k (spD X.K T 2 Φ)) (hm : Meth X.K (T.ca c) "__contains__" f) (hr : Room kb X.A) (hle : k ≤ kb := by decide) : OpR X (compareOp .NotIn) (rInO (T.ca c) (spD X.K T 2 Φ) (!·)) := by
  obtain ⟨fd, h2, h4⟩ := D.un
  exact op_ninO h4 (hr.mono hle) h2 hm
theorem d_eq (D : DF X.K X.mg f ps [] k (spD X.K T 2 Φ)) (hm : Meth X.K (T.ca c) "__eq__" f) (hu : X.A.units + 1 < cLine) (hr : Room kb X.A) (hle : k ≤ kb := by decide) : OpR X (compareOp .Eq) (rEqO (T.ca c) (spD X.K T 2 Φ)) := by
  obtain ⟨fd, h2, h4⟩ := D.un
  exact op_eqO h4 (hr.mono hle) h2 (by omega) hm
theorem d_op {op : Operator} (D : DF X.K X.mg f ps [] k (spD X.K T 2 Φ)) (hc : PySem.W.selfFirst X.K (T.ca c) = true) (hm : Meth X.K (T.ca c) (PySem.dunder op.info.2) f) (hr : Room kb X.A) (hle : k ≤ kb := by decide) : OpR X (binaryOp op) (rOwnB (T.ca c) (spD X.K T 2 Φ)) := by
  obtain ⟨fd, h2, h4⟩ := D.un
  exact op_own h4 (hr.mono hle) h2 hc hm
theorem d_inv {o : Expr} {fo : En → R Vl} {pos : Pos} (D : DF X.K X.mg f ps [] k (spD X.K T 1 Φ)) (hm : Meth X.K (T.ca c) "__invert__" f) (hr : Room kb X.A) (ho : QE X T W o fo) (hle : k ≤ kb := by decide) : QE X T W (.UnaryOp .Invert o pos) (eInv c Φ fo) := by
  obtain ⟨fd, h2, h4⟩ := D.un
  exact q_inv c h4 (hr.mono hle) h2 hm ho
end
/-- a comprehension's names where it takes none from around it -/
theorem blkOk_in {N : List Str} {sc scope : Scope} {own : List (Str × Nat)} (h : (decide (scope.kind = .function) && (decide (∀ y ∈ scope.names, scope.names.lookup y.1 = some y.2) && (decide (∀ p ∈ own, N[p.2]? = some p.1) &&
    (decide (∀ y ∈ scope.names, y.2 ≠ .free) && decide (∀ y ∈ scope.names, y.2 = .local ∨ y.2 = .cell → y.1 ∈ own.map (·.1) ∨ y.1 ∉ N))))) = true) : BlkOk N sc scope own := by
  obtain ⟨h1, h⟩ := Bool.and_eq_true_iff.mp h
  obtain ⟨h2, h⟩ := Bool.and_eq_true_iff.mp h
  obtain ⟨h3, h⟩ := Bool.and_eq_true_iff.mp h
  obtain ⟨h4, h5⟩ := Bool.and_eq_true_iff.mp h
  exact ⟨of_decide_eq_true h1, of_decide_eq_true h2, of_decide_eq_true h3, fun y hy e => absurd e (of_decide_eq_true h4 y hy), of_decide_eq_true h5⟩
end Ev
set_option maxHeartbeats 0
namespace Pf
open PySem PySem.Spec PyProof.Rows L2 Ev
def top (i : Nat) : Stmt := PySem.Challenge.pw_nothingmadeup_k76_asking_whole.main.body.getD i (.Pass ⟨0, 0, 0, 0⟩)
abbrev d_frozen : He.DefD := ⟨("frozen", none), "frozen", "frozen", defArgs (top 3), defBody (top 3), defScope (top 3), [], []⟩
abbrev d_BadSet___init__ : He.DefD := ⟨("BadSet", some "__init__"), "__init__", "BadSet.__init__", defArgs (inClass (top 8) 0), defBody (inClass (top 8) 0), defScope (inClass (top 8) 0), [], []⟩
abbrev d_NoLanguage___init__ : He.DefD := ⟨("NoLanguage", some "__init__"), "__init__", "NoLanguage.__init__", defArgs (inClass (top 9) 0), defBody (inClass (top 9) 0), defScope (inClass (top 9) 0), [], []⟩
abbrev d_BadAnswers___init__ : He.DefD := ⟨("BadAnswers", some "__init__"), "__init__", "BadAnswers.__init__", defArgs (inClass (top 10) 0), defBody (inClass (top 10) 0), defScope (inClass (top 10) 0), [], []⟩
abbrev d_tallies : He.DefD := ⟨("tallies", none), "tallies", "tallies", defArgs (top 12), defBody (top 12), defScope (top 12), [], []⟩
abbrev d_settled : He.DefD := ⟨("settled", none), "settled", "settled", defArgs (top 13), defBody (top 13), defScope (top 13), [], [("lies", .int (0))]⟩
abbrev d_agrees : He.DefD := ⟨("agrees", none), "agrees", "agrees", defArgs (top 15), defBody (top 15), defScope (top 15), [], []⟩
abbrev d_asked_place : He.DefD := ⟨("asked_place", none), "asked_place", "asked_place", defArgs (top 16), defBody (top 16), defScope (top 16), [], [("lies", .int (0))]⟩
abbrev d_asked : He.DefD := ⟨("asked", none), "asked", "asked", defArgs (top 17), defBody (top 17), defScope (top 17), [], [("lies", .int (0))]⟩
abbrev d_parting : He.DefD := ⟨("parting", none), "parting", "parting", defArgs (top 18), defBody (top 18), defScope (top 18), [], []⟩
abbrev d_enough_answers : He.DefD := ⟨("enough_answers", none), "enough_answers", "enough_answers", defArgs (top 19), defBody (top 19), defScope (top 19), [], [("lies", .int (0))]⟩
abbrev d_is_bits : He.DefD := ⟨("is_bits", none), "is_bits", "is_bits", defArgs (top 21), defBody (top 21), defScope (top 21), [], []⟩
abbrev d_least_cycle : He.DefD := ⟨("least_cycle", none), "least_cycle", "least_cycle", defArgs (top 22), defBody (top 22), defScope (top 22), [], []⟩
abbrev d_least_prefix : He.DefD := ⟨("least_prefix", none), "least_prefix", "least_prefix", defArgs (top 23), defBody (top 23), defScope (top 23), [], []⟩
abbrev d_has_bit : He.DefD := ⟨("has_bit", none), "has_bit", "has_bit", defArgs (top 24), defBody (top 24), defScope (top 24), [], []⟩
abbrev d_unfolded : He.DefD := ⟨("unfolded", none), "unfolded", "unfolded", defArgs (top 25), defBody (top 25), defScope (top 25), [], []⟩
abbrev d_merged : He.DefD := ⟨("merged", none), "merged", "merged", defArgs (top 26), defBody (top 26), defScope (top 26), [], []⟩
abbrev d_combined : He.DefD := ⟨("combined", none), "combined", "combined", defArgs (top 27), defBody (top 27), defScope (top 27), [], []⟩
abbrev d_PeriodicSet___init__ : He.DefD := ⟨("PeriodicSet", some "__init__"), "__init__", "PeriodicSet.__init__", defArgs (inClass (top 30) 0), defBody (inClass (top 30) 0), defScope (inClass (top 30) 0), [], []⟩
abbrev d_PeriodicSet___eq__ : He.DefD := ⟨("PeriodicSet", some "__eq__"), "__eq__", "PeriodicSet.__eq__", defArgs (inClass (top 30) 1), defBody (inClass (top 30) 1), defScope (inClass (top 30) 1), [], []⟩
abbrev d_PeriodicSet___contains__ : He.DefD := ⟨("PeriodicSet", some "__contains__"), "__contains__", "PeriodicSet.__contains__", defArgs (inClass (top 30) 2), defBody (inClass (top 30) 2), defScope (inClass (top 30) 2), [], []⟩
abbrev d_PeriodicSet___sub__ : He.DefD := ⟨("PeriodicSet", some "__sub__"), "__sub__", "PeriodicSet.__sub__", defArgs (inClass (top 30) 5), defBody (inClass (top 30) 5), defScope (inClass (top 30) 5), [], []⟩
abbrev d_PeriodicSet___xor__ : He.DefD := ⟨("PeriodicSet", some "__xor__"), "__xor__", "PeriodicSet.__xor__", defArgs (inClass (top 30) 6), defBody (inClass (top 30) 6), defScope (inClass (top 30) 6), [], []⟩
abbrev d_PeriodicSet_is_infinite : He.DefD := ⟨("PeriodicSet", some "is_infinite"), "is_infinite", "PeriodicSet.is_infinite", defArgs (inClass (top 30) 8), defBody (inClass (top 30) 8), defScope (inClass (top 30) 8), [], []⟩
abbrev d_PeriodicSet_after : He.DefD := ⟨("PeriodicSet", some "after"), "after", "PeriodicSet.after", defArgs (inClass (top 30) 10), defBody (inClass (top 30) 10), defScope (inClass (top 30) 10), [], []⟩
abbrev d_PeriodicSet_least : He.DefD := ⟨("PeriodicSet", some "least"), "least", "PeriodicSet.least", defArgs (inClass (top 30) 11), defBody (inClass (top 30) 11), defScope (inClass (top 30) 11), [], []⟩
abbrev d_checked_row : He.DefD := ⟨("checked_row", none), "checked_row", "checked_row", defArgs (top 32), defBody (top 32), defScope (top 32), [], []⟩
abbrev d_Band___init__ : He.DefD := ⟨("Band", some "__init__"), "__init__", "Band.__init__", defArgs (inClass (top 33) 0), defBody (inClass (top 33) 0), defScope (inClass (top 33) 0), [], []⟩
abbrev d_Band___eq__ : He.DefD := ⟨("Band", some "__eq__"), "__eq__", "Band.__eq__", defArgs (inClass (top 33) 1), defBody (inClass (top 33) 1), defScope (inClass (top 33) 1), [], []⟩
abbrev d_Band_language : He.DefD := ⟨("Band", some "language"), "language", "Band.language", defArgs (inClass (top 33) 2), defBody (inClass (top 33) 2), defScope (inClass (top 33) 2), [], []⟩
abbrev d_check_fixed : He.DefD := ⟨("check_fixed", none), "check_fixed", "check_fixed", defArgs (top 39), defBody (top 39), defScope (top 39), [], []⟩
abbrev d_check_parts : He.DefD := ⟨("check_parts", none), "check_parts", "check_parts", defArgs (top 40), defBody (top 40), defScope (top 40), [], []⟩
abbrev d_Family___init__ : He.DefD := ⟨("Family", some "__init__"), "__init__", "Family.__init__", defArgs (inClass (top 41) 0), defBody (inClass (top 41) 0), defScope (inClass (top 41) 0), [], []⟩
abbrev d_Family___eq__ : He.DefD := ⟨("Family", some "__eq__"), "__eq__", "Family.__eq__", defArgs (inClass (top 41) 1), defBody (inClass (top 41) 1), defScope (inClass (top 41) 1), [], []⟩
abbrev d_Family_place_count : He.DefD := ⟨("Family", some "place_count"), "place_count", "Family.place_count", defArgs (inClass (top 41) 2), defBody (inClass (top 41) 2), defScope (inClass (top 41) 2), [], []⟩
abbrev d_Family_seat : He.DefD := ⟨("Family", some "seat"), "seat", "Family.seat", defArgs (inClass (top 41) 3), defBody (inClass (top 41) 3), defScope (inClass (top 41) 3), [], []⟩
abbrev d_Family_language : He.DefD := ⟨("Family", some "language"), "language", "Family.language", defArgs (inClass (top 41) 5), defBody (inClass (top 41) 5), defScope (inClass (top 41) 5), [], []⟩
abbrev d__law_whole : He.DefD := ⟨("_law_whole", none), "_law_whole", "_law_whole", defArgs (top 43), defBody (top 43), defScope (top 43), [], []⟩
abbrev d__law_cell : He.DefD := ⟨("_law_cell", none), "_law_cell", "_law_cell", defArgs (top 44), defBody (top 44), defScope (top 44), [], []⟩
abbrev d__law_digits : He.DefD := ⟨("_law_digits", none), "_law_digits", "_law_digits", defArgs (top 45), defBody (top 45), defScope (top 45), [], []⟩
abbrev d__law_in : He.DefD := ⟨("_law_in", none), "_law_in", "_law_in", defArgs (top 46), defBody (top 46), defScope (top 46), [], []⟩
abbrev d__law_line : He.DefD := ⟨("_law_line", none), "_law_line", "_law_line", defArgs (top 47), defBody (top 47), defScope (top 47), [], []⟩
abbrev d__law_places : He.DefD := ⟨("_law_places", none), "_law_places", "_law_places", defArgs (top 48), defBody (top 48), defScope (top 48), [], []⟩
abbrev d__law_band : He.DefD := ⟨("_law_band", none), "_law_band", "_law_band", defArgs (top 49), defBody (top 49), defScope (top 49), [], []⟩
abbrev d__law_fixed : He.DefD := ⟨("_law_fixed", none), "_law_fixed", "_law_fixed", defArgs (top 50), defBody (top 50), defScope (top 50), [], []⟩
abbrev d__law_family : He.DefD := ⟨("_law_family", none), "_law_family", "_law_family", defArgs (top 51), defBody (top 51), defScope (top 51), [], []⟩
abbrev d__law_list : He.DefD := ⟨("_law_list", none), "_law_list", "_law_list", defArgs (top 52), defBody (top 52), defScope (top 52), [], []⟩
abbrev d__law_any_family : He.DefD := ⟨("_law_any_family", none), "_law_any_family", "_law_any_family", defArgs (top 53), defBody (top 53), defScope (top 53), [], []⟩
abbrev d__law_build : He.DefD := ⟨("_law_build", none), "_law_build", "_law_build", defArgs (top 54), defBody (top 54), defScope (top 54), [], []⟩
abbrev d__law_part_of : He.DefD := ⟨("_law_part_of", none), "_law_part_of", "_law_part_of", defArgs (top 55), defBody (top 55), defScope (top 55), [], []⟩
abbrev d__law_told_set : He.DefD := ⟨("_law_told_set", none), "_law_told_set", "_law_told_set", defArgs (top 56), defBody (top 56), defScope (top 56), [], []⟩
abbrev d__law_least_unsettled : He.DefD := ⟨("_law_least_unsettled", none), "_law_least_unsettled", "_law_least_unsettled", defArgs (top 57), defBody (top 57), defScope (top 57), [], []⟩
abbrev d__law_parting : He.DefD := ⟨("_law_parting", none), "_law_parting", "_law_parting", defArgs (top 58), defBody (top 58), defScope (top 58), [], []⟩
abbrev d_law : He.DefD := ⟨("law", none), "law", "law", defArgs (top 59), defBody (top 59), defScope (top 59), [], []⟩
abbrev fn : List He.DefD := [d_frozen, d_BadSet___init__, d_NoLanguage___init__, d_BadAnswers___init__, d_tallies, d_settled, d_agrees, d_asked_place, d_asked, d_parting, d_enough_answers, d_is_bits, d_least_cycle, d_least_prefix, d_has_bit, d_unfolded, d_merged, d_combined, d_PeriodicSet___init__, d_PeriodicSet___eq__, d_PeriodicSet___contains__, d_PeriodicSet___sub__, d_PeriodicSet___xor__, d_PeriodicSet_is_infinite, d_PeriodicSet_after, d_PeriodicSet_least, d_checked_row, d_Band___init__, d_Band___eq__, d_Band_language, d_check_fixed, d_check_parts, d_Family___init__, d_Family___eq__, d_Family_place_count, d_Family_seat, d_Family_language, d__law_whole, d__law_cell, d__law_digits, d__law_in, d__law_line, d__law_places, d__law_band, d__law_fixed, d__law_family, d__law_list, d__law_any_family, d__law_build, d__law_part_of, d__law_told_set, d__law_least_unsettled, d__law_parting, d_law]
def clsN : Nat → Str
  | 43 => "WritingError"
  | 4 => "BadBand"
  | 6 => "BadFamily"
  | 26 => "NoneAgrees"
  | 11 => "BadSet"
  | 22 => "NoLanguage"
  | 3 => "BadAnswers"
  | 35 => "PeriodicSet"
  | 13 => "Band"
  | 18 => "Family"
  | _ => ""
def clsF : Nat → List Str
  | 11 => ["prefix", "cycle"]
  | 22 => ["place"]
  | 3 => ["sentence"]
  | 35 => ["cycle", "prefix"]
  | 13 => ["period", "rows"]
  | 18 => ["period", "fixed", "bands"]
  | _ => []
abbrev tb (K : PySem.W.Frag) : Tb := ⟨fun c => He.ga K (clsN c), fun c => clsF c, (0, .none, none)⟩
def fb : List FB := [
  fun K => (He.Fa.free "len").ok K,
  fun K => (He.Fa.free "range").ok K,
  fun K => (He.Fa.free "int").ok K,
  fun K => (He.Fa.free "sum").ok K,
  fun K => (He.Fa.free "list").ok K,
  fun K => (He.Fa.free "max").ok K,
  fun K => (He.Fa.glo "_law_fixed").ok K,
  fun K => (He.Fa.glo "_law_cell").ok K,
  fun K => (He.Fa.glo "_law_digits").ok K,
  fun K => (He.Fa.glo "_law_band").ok K,
  fun K => (He.Fa.glo "_law_family").ok K,
  fun K => (He.Fa.glo "_law_list").ok K,
  fun K => (He.Fa.free "isinstance").ok K,
  fun K => (He.Fa.free "tuple").ok K,
  fun K => (He.Fa.glo "frozen").ok K,
  fun K => oexB (He.ga K "BadSet") K,
  fun K => (He.Fa.noat "BadSet" "cycle").ok K,
  fun K => (He.Fa.noat "BadSet" "prefix").ok K,
  fun K => (He.Fa.free "all").ok K,
  fun K => (He.Fa.free "str").ok K,
  fun K => (He.Fa.glo "least_prefix").ok K,
  fun K => (He.Fa.glo "least_cycle").ok K,
  fun K => (He.Fa.glo "is_bits").ok K,
  fun K => xinB (He.ga K "BadSet") (He.ma K (He.ga K "BadSet") "__init__") K,
  fun K => (He.Fa.glo "BadSet").ok K,
  fun K => (He.Fa.int "LONGEST_PREFIX" (12)).ok K,
  fun K => (He.Fa.exc "BadFamily").ok K,
  fun K => (He.Fa.glo "BadFamily").ok K,
  fun K => (He.Fa.glo "PeriodicSet").ok K,
  fun K => (He.Fa.cls "PeriodicSet").ok K,
  fun K => (He.Fa.meth "PeriodicSet" "is_infinite").ok K,
  fun K => (He.Fa.exc "BadBand").ok K,
  fun K => (He.Fa.glo "BadBand").ok K,
  fun K => (He.Fa.glo "checked_row").ok K,
  fun K => (He.Fa.glo "Band").ok K,
  fun K => (He.Fa.glo "check_fixed").ok K,
  fun K => (He.Fa.int "MOST_FIXED" (6)).ok K,
  fun K => (He.Fa.int "MOST_BANDS" (2)).ok K,
  fun K => (He.Fa.free "bool").ok K,
  fun K => (He.Fa.int "MOST_PERIOD" (4)).ok K,
  fun K => (He.Fa.glo "check_parts").ok K,
  fun K => (He.Fa.mkr "Band").ok K,
  fun K => (He.Fa.mkr "Family").ok K,
  fun K => (He.Fa.glo "Family").ok K,
  fun K => (He.Fa.mkr "PeriodicSet").ok K,
  fun K => (He.Fa.glo "_law_in").ok K,
  fun K => (He.Fa.glo "_law_line").ok K,
  fun K => oexB (He.ga K "NoLanguage") K,
  fun K => (He.Fa.noat "NoLanguage" "place").ok K,
  fun K => (He.Fa.free "divmod").ok K,
  fun K => xinB (He.ga K "NoLanguage") (He.ma K (He.ga K "NoLanguage") "__init__") K,
  fun K => (He.Fa.glo "NoLanguage").ok K,
  fun K => (He.Fa.glo "unfolded").ok K,
  fun K => (He.Fa.cls "Band").ok K,
  fun K => (He.Fa.meth "Band" "language").ok K,
  fun K => (He.Fa.cls "Family").ok K,
  fun K => (He.Fa.meth "Family" "seat").ok K,
  fun K => (He.Fa.glo "has_bit").ok K,
  fun K => (He.Fa.meth "PeriodicSet" "after").ok K,
  fun K => (He.Fa.free "zip").ok K,
  fun K => (He.Fa.glo "merged").ok K,
  fun K => He.eqO (PySem.W.nsIn K mainGlobals "lcm") (some (some (.builtin "math.lcm"))),
  fun K => (He.Fa.glo "combined").ok K,
  fun K => (He.Fa.meth "Family" "language").ok K,
  fun K => PySem.W.selfFirst K (He.ga K "PeriodicSet"),
  fun K => (He.Fa.meth "PeriodicSet" "__xor__").ok K,
  fun K => (He.Fa.meth "PeriodicSet" "least").ok K,
  fun K => (He.Fa.glo "parting").ok K,
  fun K => oexB (He.ga K "BadAnswers") K,
  fun K => (He.Fa.noat "BadAnswers" "sentence").ok K,
  fun K => (He.Fa.free "sorted").ok K,
  fun K => xinB (He.ga K "BadAnswers") (He.ma K (He.ga K "BadAnswers") "__init__") K,
  fun K => (He.Fa.glo "BadAnswers").ok K,
  fun K => (He.Fa.glo "tallies").ok K,
  fun K => (He.Fa.meth "PeriodicSet" "__contains__").ok K,
  fun K => (He.Fa.exc "NoneAgrees").ok K,
  fun K => (He.Fa.glo "NoneAgrees").ok K,
  fun K => (He.Fa.glo "agrees").ok K,
  fun K => (He.Fa.meth "Family" "place_count").ok K,
  fun K => (He.Fa.glo "settled").ok K,
  fun K => (He.Fa.glo "asked_place").ok K,
  fun K => (He.Fa.glo "_law_least_unsettled").ok K,
  fun K => (He.Fa.glo "asked").ok K,
  fun K => (He.Fa.glo "_law_told_set").ok K,
  fun K => (He.Fa.glo "_law_part_of").ok K,
  fun K => (He.Fa.glo "_law_whole").ok K,
  fun K => (He.Fa.glo "_law_places").ok K,
  fun K => (He.Fa.glo "_law_parting").ok K,
  fun K => (He.Fa.glo "enough_answers").ok K,
  fun K => (He.Fa.glo "_law_build").ok K,
  fun K => (He.Fa.glo "_law_any_family").ok K,
  fun K => (He.Fa.noat "PeriodicSet" "cycle").ok K,
  fun K => (He.Fa.noat "PeriodicSet" "prefix").ok K,
  fun K => (He.Fa.noat "Band" "period").ok K,
  fun K => (He.Fa.noat "Band" "rows").ok K,
  fun K => (He.Fa.noat "Family" "period").ok K,
  fun K => (He.Fa.noat "Family" "fixed").ok K,
  fun K => (He.Fa.noat "Family" "bands").ok K,
  fun K => kitB1 (He.ga K "PeriodicSet") [(.type "list")] false K,
  fun K => kitB1 (He.ga K "Band") [(.type "list")] false K,
  fun K => kitB1 (He.ga K "Family") [(.type "list")] false K,
  fun K => clsB (He.ga K "PeriodicSet") K,
  fun K => clsB (He.ga K "Band") K,
  fun K => clsB (He.ga K "Family") K,
  fun K => kitB0 "NoneType" [(.type "list")] false K,
  fun K => kitB0 "bool" [(.type "list")] false K,
  fun K => kitB0 "int" [(.type "list")] false K,
  fun K => kitB0 "str" [(.type "list")] false K,
  fun K => kitB0 "list" [(.type "list")] true K,
  fun K => kitB0 "tuple" [(.type "list")] false K,
  fun K => kitB0 "dict" [(.type "list")] false K,
  fun K => kitB1 (He.ga K "PeriodicSet") [(.type "str")] false K,
  fun K => kitB1 (He.ga K "Band") [(.type "str")] false K,
  fun K => kitB1 (He.ga K "Family") [(.type "str")] false K,
  fun K => kitB0 "NoneType" [(.type "str")] false K,
  fun K => kitB0 "bool" [(.type "str")] false K,
  fun K => kitB0 "int" [(.type "str")] false K,
  fun K => kitB0 "str" [(.type "str")] true K,
  fun K => kitB0 "list" [(.type "str")] false K,
  fun K => kitB0 "tuple" [(.type "str")] false K,
  fun K => kitB0 "dict" [(.type "str")] false K,
  fun K => kitB1 (He.ga K "PeriodicSet") [(.ref (He.ga K "PeriodicSet"))] true K,
  fun K => kitB1 (He.ga K "Band") [(.ref (He.ga K "PeriodicSet"))] false K,
  fun K => kitB1 (He.ga K "Family") [(.ref (He.ga K "PeriodicSet"))] false K,
  fun K => kitB0 "NoneType" [(.ref (He.ga K "PeriodicSet"))] false K,
  fun K => kitB0 "bool" [(.ref (He.ga K "PeriodicSet"))] false K,
  fun K => kitB0 "int" [(.ref (He.ga K "PeriodicSet"))] false K,
  fun K => kitB0 "str" [(.ref (He.ga K "PeriodicSet"))] false K,
  fun K => kitB0 "list" [(.ref (He.ga K "PeriodicSet"))] false K,
  fun K => kitB0 "tuple" [(.ref (He.ga K "PeriodicSet"))] false K,
  fun K => kitB0 "dict" [(.ref (He.ga K "PeriodicSet"))] false K,
  fun K => kitB1 (He.ga K "PeriodicSet") [(.type "list"), (.type "tuple")] false K,
  fun K => kitB1 (He.ga K "Band") [(.type "list"), (.type "tuple")] false K,
  fun K => kitB1 (He.ga K "Family") [(.type "list"), (.type "tuple")] false K,
  fun K => kitB0 "NoneType" [(.type "list"), (.type "tuple")] false K,
  fun K => kitB0 "bool" [(.type "list"), (.type "tuple")] false K,
  fun K => kitB0 "int" [(.type "list"), (.type "tuple")] false K,
  fun K => kitB0 "str" [(.type "list"), (.type "tuple")] false K,
  fun K => kitB0 "list" [(.type "list"), (.type "tuple")] true K,
  fun K => kitB0 "tuple" [(.type "list"), (.type "tuple")] true K,
  fun K => kitB0 "dict" [(.type "list"), (.type "tuple")] false K,
  fun K => kitB1 (He.ga K "PeriodicSet") [(.ref (He.ga K "Band"))] false K,
  fun K => kitB1 (He.ga K "Band") [(.ref (He.ga K "Band"))] true K,
  fun K => kitB1 (He.ga K "Family") [(.ref (He.ga K "Band"))] false K,
  fun K => kitB0 "NoneType" [(.ref (He.ga K "Band"))] false K,
  fun K => kitB0 "bool" [(.ref (He.ga K "Band"))] false K,
  fun K => kitB0 "int" [(.ref (He.ga K "Band"))] false K,
  fun K => kitB0 "str" [(.ref (He.ga K "Band"))] false K,
  fun K => kitB0 "list" [(.ref (He.ga K "Band"))] false K,
  fun K => kitB0 "tuple" [(.ref (He.ga K "Band"))] false K,
  fun K => kitB0 "dict" [(.ref (He.ga K "Band"))] false K,
  fun K => kitB1 (He.ga K "PeriodicSet") [(.type "int")] false K,
  fun K => kitB1 (He.ga K "Band") [(.type "int")] false K,
  fun K => kitB1 (He.ga K "Family") [(.type "int")] false K,
  fun K => kitB0 "NoneType" [(.type "int")] false K,
  fun K => kitB0 "bool" [(.type "int")] true K,
  fun K => kitB0 "int" [(.type "int")] true K,
  fun K => kitB0 "str" [(.type "int")] false K,
  fun K => kitB0 "list" [(.type "int")] false K,
  fun K => kitB0 "tuple" [(.type "int")] false K,
  fun K => kitB0 "dict" [(.type "int")] false K,
  fun K => kitB1 (He.ga K "PeriodicSet") [(.type "bool")] false K,
  fun K => kitB1 (He.ga K "Band") [(.type "bool")] false K,
  fun K => kitB1 (He.ga K "Family") [(.type "bool")] false K,
  fun K => kitB0 "NoneType" [(.type "bool")] false K,
  fun K => kitB0 "bool" [(.type "bool")] true K,
  fun K => kitB0 "int" [(.type "bool")] false K,
  fun K => kitB0 "str" [(.type "bool")] false K,
  fun K => kitB0 "list" [(.type "bool")] false K,
  fun K => kitB0 "tuple" [(.type "bool")] false K,
  fun K => kitB0 "dict" [(.type "bool")] false K,
  fun K => (He.Fa.glo "law").ok K]
def loose : List Str := (["_wall", "__name__", "frozen", "WritingError", "BadBand", "BadFamily", "NoneAgrees", "BadSet", "NoLanguage", "BadAnswers", "tallies", "settled", "agrees", "asked_place", "asked", "parting", "enough_answers", "is_bits", "least_cycle", "least_prefix", "has_bit", "unfolded", "merged", "combined", "flipped", "PeriodicSet", "checked_row", "Band", "MOST_FIXED", "MOST_BANDS"] : List Str) ++ (["MOST_PERIOD", "LONGEST_PREFIX", "check_fixed", "check_parts", "Family", "_law_whole", "_law_cell", "_law_digits", "_law_in", "_law_line", "_law_places", "_law_band", "_law_fixed", "_law_family", "_law_list", "_law_any_family", "_law_build", "_law_part_of", "_law_told_set", "_law_least_unsettled", "_law_parting"] : List Str)
abbrev RR : PySem.W.OpenRow := PySem.W.OpenLaw.row PySem.Challenge.rw_nothingmadeup_k76_asking_whole
def csL : List Str := (["WritingError", "BadBand", "BadFamily", "NoneAgrees", "BadSet", "NoLanguage", "BadAnswers", "PeriodicSet", "Band", "Family"] : List Str)
def fsL : List Str := (["frozen", "tallies", "settled", "agrees", "asked_place", "asked", "parting", "enough_answers", "is_bits", "least_cycle", "least_prefix", "has_bit", "unfolded", "merged", "combined", "checked_row", "check_fixed", "check_parts", "_law_whole", "_law_cell", "_law_digits", "_law_in", "_law_line", "_law_places", "_law_band", "_law_fixed", "_law_family", "_law_list", "_law_any_family", "_law_build"] : List Str) ++ (["_law_part_of", "_law_told_set", "_law_least_unsettled", "_law_parting", "law"] : List Str)
abbrev hk : PySem.W.Hook := hookL csL fsL fb fn
def ob (s : PySem.W.SharedT) : He.AlD := obsLG csL fsL fb fn (HandSHeadRun.getT s)
theorem ob_eq (s : PySem.W.SharedT) : ob s = hk.obs s.abs := obsLG_eq (HandSHeadRun.getT_eq s)
theorem run (w : World) : HandSHeadRun.RunEqI RR (PySem.W.view RR.prog [0, 59]) hk ob 6000 loose w := by
  unfold HandSHeadRun.RunEqI
  kernel_rfl
end Pf
set_option maxHeartbeats 1000000
/-! Pl1: the evaluators computed. -/
namespace Ev
open PySem L2

section
variable {f f1 f2 f3 : En → R Vl} {g g1 g2 : En → Out} {ρ : En} {i : Nat}
@[simp] theorem seq_ap : sSeq g1 g2 ρ = (g1 ρ).then g2 := rfl
@[simp] theorem then_nx {ρ : En} : (Out.next ρ).then g = g ρ := rfl
@[simp] theorem then_rt {a : Vl} : (Out.ret a).then g = .ret a := rfl
@[simp] theorem then_ex {ρ : En} {c : Nat} {l : List D} : (Out.exc ρ c l).then g = .exc ρ c l := rfl
@[simp] theorem then_bk {ρ : En} : (Out.brk ρ).then g = .brk ρ := rfl
@[simp] theorem then_ct {ρ : En} : (Out.cont ρ).then g = .cont ρ := rfl
@[simp] theorem nx_ap : sNext ρ = .next ρ := rfl
@[simp] theorem out_ok {α : Type} {a : α} {k : α → Out} : (R.ok a).toOut ρ k = k a := rfl
@[simp] theorem out_ex {α : Type} {c : Nat} {l : List D} {k : α → Out} : (R.exc c l : R α).toOut ρ k = .exc ρ c l := rfl
@[simp] theorem bind_ok' {α β : Type} {a : α} {k : α → R β} : (R.ok a).bind k = k a := rfl
@[simp] theorem bind_ex {α β : Type} {c : Nat} {l : List D} {k : α → R β} : (R.exc c l : R α).bind k = .exc c l := rfl
@[simp] theorem ofO_some {α β : Type} {a : α} {k : α → R β} : ofO (some a) k = k a := rfl
@[simp] theorem lit_ap {d : D} : eLit d ρ = .ok ⟨d, .pl, true⟩ := rfl
@[simp] theorem nb_pl {d : D} {b : Bool} : nb? ⟨d, .pl, b⟩ = true := rfl
@[simp] theorem nb_nw {d : D} {b : Bool} : nb? ⟨d, .nw, b⟩ = true := rfl
@[simp] theorem nb_bo {d : D} {b : Bool} : nb? ⟨d, .bo, b⟩ = false := rfl
@[simp] theorem isNw_nw {d : D} {b : Bool} : isNw ⟨d, .nw, b⟩ = true := rfl
@[simp] theorem isObj_lst {l : List D} : isObj (.lst l) = false := rfl
@[simp] theorem isObj_dct {l : List (Key × D)} : isObj (.dct l) = false := rfl
@[simp] theorem sc_int {n : Int} : scalar (.int n) = true := rfl
@[simp] theorem sc_bl {n : Bool} : scalar (.bl n) = true := rfl
@[simp] theorem sc_str {n : List Nat} : scalar (.str n) = true := rfl
@[simp] theorem sc_non : scalar .non = true := rfl
@[simp] theorem sc_lst {l : List D} : scalar (.lst l) = false := rfl
@[simp] theorem sc_lsk {l : List D} : scalar (.lsk l) = false := rfl
@[simp] theorem sc_tup {l : List D} : scalar (.tup l) = false := rfl
@[simp] theorem sc_dct {l : List (Key × D)} : scalar (.dct l) = false := rfl
@[simp] theorem sc_obj {c : Nat} {l : List D} : scalar (.obj c l) = false := rfl
@[simp] theorem asg_ap : sAsg i f ρ = (f ρ).toOut ρ fun a => if nb? a = true ∧ i < ρ.length then .next (ρ.set i (.sh a.d (a.f || scalar a.d))) else .bad := rfl
@[simp] theorem own_ap : sOwn i f ρ = (f ρ).toOut ρ fun a => if isNw a = true ∧ isObj a.d = false ∧ i < ρ.length then .next (ρ.set i (.ow a.d a.f)) else .bad := rfl
@[simp] theorem ret_ap : sRet f ρ = (f ρ).toOut ρ fun a => .ret a := rfl
@[simp] theorem retN_ap : sRetN ρ = .ret ⟨.non, .pl, true⟩ := rfl
@[simp] theorem drop_ap : sDrop f ρ = (f ρ).toOut ρ fun _ => .next ρ := rfl
@[simp] theorem if_ap {c : En → R Bool} : sIf c g1 g2 ρ = (c ρ).toOut ρ fun b => if b then g1 ρ else g2 ρ := rfl
@[simp] theorem for_ap {it : En → R Itm} {h : D → Bool → En → Option En} : sFor it h g ρ = (it ρ).toOut ρ fun a => if a.b then .bad else loopF h a.f g a.ds ρ := rfl
theorem var_sh {d : D} {b : Bool} (h : ρ[i]? = some (.sh d b)) : eVar i ρ = .ok ⟨d, .pl, b || scalar d⟩ := by
  unfold eVar
  rw [h]
  rfl
theorem var_ow {d : D} {b : Bool} (h : ρ[i]? = some (.ow d b)) : eVar i ρ = .ok ⟨d, .bo, b⟩ := by
  unfold eVar
  rw [h]
theorem app_ow {l : List D} {b : Bool} (h : ρ[i]? = some (.ow (.lst l) b)) : sApp i f ρ = (f ρ).toOut ρ fun a => if nb? a = true ∧ l.length < 1000000 then .next (ρ.set i (.ow (.lst (l ++ [a.d])) (b && (a.f || scalar a.d)))) else .bad := by
  unfold sApp
  rw [h]
theorem aug_sh {h : Int → Int → Int} {x : Int} {b : Bool} (e : ρ[i]? = some (.sh (.int x) b)) : sAug i h f ρ = (f ρ).toOut ρ fun a => match int? a with
    | some y => .next (ρ.set i (.sh (.int (h x y)) true))
    | none => .bad := by
  unfold sAug
  first
    | (rw [e]; done)
    | (rw [e]; rfl)
theorem fz_ow {d : D} {b : Bool} (h : ρ[i]? = some (.ow d b)) : sFz i g ρ = g (ρ.set i (.sh d b)) := by
  unfold sFz
  rw [h]
@[simp] theorem e2_ap {h : Vl → Vl → R Vl} : e2 h f1 f2 ρ = (f1 ρ).bind fun x => (f2 ρ).bind fun y => h x y := rfl
@[simp] theorem e1_ap {h : Vl → R Vl} : e1 h f ρ = (f ρ).bind h := rfl
@[simp] theorem t2_ap {h : Vl → Vl → Option Bool} : t2 h f1 f2 ρ = (f1 ρ).bind fun x => (f2 ρ).bind fun y => ofO (h x y) .ok := rfl
@[simp] theorem t3_ap {h h' : Vl → Vl → Option Bool} : t3 h h' f1 f2 f3 ρ = (f1 ρ).bind fun x => (f2 ρ).bind fun y => ofO (h x y) fun k => if k then (f3 ρ).bind fun z => ofO (h' y z) .ok else .ok false := rfl
@[simp] theorem tVal_ap : tVal f ρ = (f ρ).bind fun x => ofO (bl? x) .ok := rfl
@[simp] theorem tNot_ap {t : En → R Bool} : tNot' t ρ = (t ρ).bind fun b => .ok (!b) := rfl
@[simp] theorem tAnd_ap {t u : En → R Bool} : tAnd' t u ρ = (t ρ).bind fun b => if b then u ρ else .ok false := rfl
@[simp] theorem tOr_ap {t u : En → R Bool} : tOr' t u ρ = (t ρ).bind fun b => if b then .ok true else u ρ := rfl
@[simp] theorem vAnd_ap : vAnd f1 f2 ρ = (f1 ρ).bind fun x => ofO (bl? x) fun b => if b then f2 ρ else sc (.bl false) := rfl
@[simp] theorem vOr_ap : vOr f1 f2 ρ = (f1 ρ).bind fun x => ofO (bl? x) fun b => if b then sc (.bl true) else f2 ρ := rfl
@[simp] theorem vNot_ap : vNot f ρ = (f ρ).bind fun x => ofO (bl? x) fun b => sc (.bl (!b)) := rfl
@[simp] theorem eIf_ap {t : En → R Bool} : eIf t f1 f2 ρ = (t ρ).bind fun b => if b then f1 ρ else f2 ρ := rfl
@[simp] theorem bl_ap {b : Bool} {m : Mk3} {k : Bool} : bl? ⟨.bl b, m, k⟩ = some b := rfl
@[simp] theorem sc_ap {d : D} : sc d = .ok ⟨d, .pl, true⟩ := rfl
@[simp] theorem pl_ap {d : D} {b : Bool} : Ev.pl d b = .ok ⟨d, .pl, b || scalar d⟩ := rfl
@[simp] theorem aNil_ap : aNil ρ = .ok [] := rfl
@[simp] theorem aCons_ap {fs : En → R (List Vl)} : aCons f fs ρ = (f ρ).bind fun x => (fs ρ).bind fun xs => .ok (x :: xs) := rfl
@[simp] theorem plain_nil : plain [] = some ([], true) := rfl
@[simp] theorem plain_pl {d : D} {b : Bool} {as : List Vl} : plain (⟨d, .pl, b⟩ :: as) = (plain as).map fun p => (d :: p.1, b && p.2) := rfl
@[simp] theorem plain_nw {d : D} {b : Bool} {as : List Vl} : plain (⟨d, .nw, b⟩ :: as) = (plain as).map fun p => (d :: p.1, b && p.2) := rfl
@[simp] theorem plain_bo {d : D} {b : Bool} {as : List Vl} : plain (⟨d, .bo, b⟩ :: as) = none := rfl
@[simp] theorem tup_ap {fs : En → R (List Vl)} : eTup fs ρ = (fs ρ).bind fun as => ofO (plain as) fun p => if p.1.length ≤ 1000000 then .ok ⟨.tup p.1, .pl, p.2⟩ else .bad := rfl
@[simp] theorem lst_ap {fs : En → R (List Vl)} : eLst fs ρ = (fs ρ).bind fun as => ofO (plain as) fun p => if p.1.length ≤ 1000000 then .ok ⟨.lst p.1, .nw, p.2⟩ else .bad := rfl
@[simp] theorem call_ap {Φ : Sm} {n : Nat} {dds : List D} {fs : En → R (List Vl)} : eCall Φ n dds fs ρ = (fs ρ).bind fun as => if as.length + dds.length = n then callR Φ as dds else .bad := rfl
@[simp] theorem callK_ap {Φ : Sm} {n k : Nat} {fs fz : En → R (List Vl)} : eCallK Φ n k fs fz ρ = (fs ρ).bind fun as => (fz ρ).bind fun zs => if as.length = n ∧ zs.length = k then callR Φ (as ++ zs) [] else .bad := rfl
/-- a call whose answer is known -/
theorem callR_ok {Φ : Sm} {as : List Vl} {dds : List D} {ds : List D} {b : Bool} {r : D × Bool} (h : plain as = some (ds, b)) (e : Φ (ds ++ dds) = .ok r) : callR Φ as dds = .ok ⟨r.1, .pl, r.2 || scalar r.1⟩ := by
  unfold callR
  rw [h]
  show (match Φ (ds ++ dds) with
    | .ok r => R.ok (⟨r.1, .pl, r.2 || scalar r.1⟩ : Vl)
    | .exc c l => .exc c l
    | .bad => .bad) = _
  rw [e]
theorem callR_bo {Φ : Sm} {as : List Vl} {dds : List D} {r : D × Bool} (h : plain as = none) (e : Φ (as.map (·.d) ++ dds) = .ok r) (hr : (r.2 || scalar r.1) = true) : callR Φ as dds = .ok ⟨r.1, .pl, true⟩ := by
  unfold callR
  rw [h]
  show (match Φ (as.map (·.d) ++ dds) with
    | .ok r => if (r.2 || scalar r.1) = true then R.ok (⟨r.1, .pl, true⟩ : Vl) else .bad
    | .exc c l => if l.all scalar = true then .exc c l else .bad
    | .bad => .bad) = _
  rw [e]
  exact if_pos hr
/-- .. whichever way the arguments are held -/
theorem callR_new {Φ : Sm} {as : List Vl} {dds : List D} {d : D} (e : Φ (as.map (·.d) ++ dds) = .ok (d, true)) : callR Φ as dds = .ok ⟨d, .pl, true⟩ := by
  cases h : plain as with
  | none => exact callR_bo h e rfl
  | some p =>
    have key : ∀ {as : List Vl} {p : List D × Bool}, plain as = some p → p.1 = as.map (·.d) := by
      intro as
      induction as with
      | nil => intro p h; cases h; rfl
      | cons a as ih =>
        intro p h
        unfold plain at h
        cases hm : a.m with
        | bo => rw [hm] at h; cases h
        | pl =>
          rw [hm] at h
          obtain ⟨q, h1, h2⟩ := Option.map_eq_some_iff.mp h
          subst h2
          simp [ih h1]
        | nw =>
          rw [hm] at h
          obtain ⟨q, h1, h2⟩ := Option.map_eq_some_iff.mp h
          subst h2
          simp [ih h1]
    have k := key h
    obtain ⟨ds, b⟩ := p
    have k : ds = as.map (·.d) := k
    subst k
    exact callR_ok h e
theorem callR_exc {Φ : Sm} {as : List Vl} {dds : List D} {c : Nat} {l : List D} (hl : l.all scalar = true) (e : Φ (as.map (·.d) ++ dds) = .exc c l) : callR Φ as dds = .exc c l := by
  cases h : plain as with
  | none =>
    unfold callR
    rw [h]
    show (match Φ (as.map (·.d) ++ dds) with
      | .ok r => if (r.2 || scalar r.1) = true then R.ok (⟨r.1, .pl, true⟩ : Vl) else .bad
      | .exc c l => if l.all scalar = true then .exc c l else .bad
      | .bad => .bad) = _
    rw [e]
    exact if_pos hl
  | some p =>
    have key : ∀ {as : List Vl} {p : List D × Bool}, plain as = some p → p.1 = as.map (·.d) := by
      intro as
      induction as with
      | nil => intro p h; cases h; rfl
      | cons a as ih =>
        intro p h
        unfold plain at h
        cases hm : a.m with
        | bo => rw [hm] at h; cases h
        | pl =>
          rw [hm] at h
          obtain ⟨q, h1, h2⟩ := Option.map_eq_some_iff.mp h
          subst h2
          simp [ih h1]
        | nw =>
          rw [hm] at h
          obtain ⟨q, h1, h2⟩ := Option.map_eq_some_iff.mp h
          subst h2
          simp [ih h1]
    have k := key h
    unfold callR
    rw [h]
    show (match Φ (p.1 ++ dds) with
      | .ok r => R.ok (⟨r.1, .pl, r.2 || scalar r.1⟩ : Vl)
      | .exc c l => .exc c l
      | .bad => .bad) = _
    rw [k, e]
/-! values -/
section
variable {m m' : Mk3} {b b' : Bool} {x y : Int} {s t : List Nat} {l l' : List D}
@[simp] theorem gAdd_i : gAdd ⟨.int x, m, b⟩ ⟨.int y, m', b'⟩ = .ok ⟨.int (x + y), .pl, true⟩ := rfl
@[simp] theorem gSub_i : gSubI ⟨.int x, m, b⟩ ⟨.int y, m', b'⟩ = .ok ⟨.int (x - y), .pl, true⟩ := rfl
theorem gMul_i (h : x.natAbs < 18446744073709551616 ∨ y.natAbs < 18446744073709551616) : gMul ⟨.int x, m, b⟩ ⟨.int y, m', b'⟩ = .ok ⟨.int (x * y), .pl, true⟩ := by
  show ofO (mul? x y) _ = _
  unfold mul?
  rw [if_pos h]
  rfl
theorem gDiv_i (h : 0 < y ∧ y < 1073741824) : gDivI ⟨.int x, m, b⟩ ⟨.int y, m', b'⟩ = .ok ⟨.int (x / y), .pl, true⟩ := by
  show ofO (fdiv? x y) _ = _
  unfold fdiv?
  rw [if_pos h]
  rfl
theorem gMod_i (h : 0 < y) : gModI ⟨.int x, m, b⟩ ⟨.int y, m', b'⟩ = .ok ⟨.int (x % y), .pl, true⟩ := by
  show ofO (mod? x y) _ = _
  unfold mod?
  rw [if_pos h]
  rfl
theorem gPow_i (h : 0 ≤ y ∧ y ≤ 1000000 ∧ x.natAbs < 18446744073709551616) : gPowI ⟨.int x, m, b⟩ ⟨.int y, m', b'⟩ = .ok ⟨.int (x ^ y.toNat), .pl, true⟩ := by
  show ofO (pow? x y) _ = _
  unfold pow?
  rw [if_pos h]
  rfl
@[simp] theorem gInt_i : gInt ⟨.int x, m, b⟩ = .ok ⟨.int x, .pl, true⟩ := rfl
@[simp] theorem gInt_b {k : Bool} : gInt ⟨.bl k, m, b⟩ = .ok ⟨.int (if k then 1 else 0), .pl, true⟩ := rfl
@[simp] theorem cLt_i : cLt ⟨.int x, m, b⟩ ⟨.int y, m', b'⟩ = some (decide (x < y)) := rfl
@[simp] theorem cLe_i : cLe ⟨.int x, m, b⟩ ⟨.int y, m', b'⟩ = some (decide (x ≤ y)) := rfl
@[simp] theorem cGt_i : cGt ⟨.int x, m, b⟩ ⟨.int y, m', b'⟩ = some (decide (y < x)) := rfl
@[simp] theorem cGe_i : cGe ⟨.int x, m, b⟩ ⟨.int y, m', b'⟩ = some (decide (y ≤ x)) := rfl
@[simp] theorem gC_ap {h : Vl → Vl → Option Bool} {u w : Vl} : gC h u w = ofO (h u w) fun k => .ok ⟨.bl k, .pl, true⟩ := rfl
theorem gAdd_s (h : s.length + t.length ≤ 1000000) : gAdd ⟨.str s, m, b⟩ ⟨.str t, m', b'⟩ = .ok ⟨.str (s ++ t), .pl, true⟩ := if_pos h
theorem gAdd_l (h : l.length + l'.length ≤ 1000000) : gAdd ⟨.lst l, m, b⟩ ⟨.lst l', m', b'⟩ = .ok ⟨.lst (l ++ l'), .nw, b && b'⟩ := if_pos h
theorem gMul_l (h : 0 ≤ x ∧ x ≤ 1000000 ∧ l.length * x.toNat ≤ 1000000) : gMul ⟨.lst l, m, b⟩ ⟨.int x, m', b'⟩ = .ok ⟨.lst (List.replicate x.toNat l).flatten, .nw, b⟩ := if_pos h
theorem gMul_s (h : 0 ≤ x ∧ x ≤ 1000000 ∧ s.length * x.toNat ≤ 1000000) : gMul ⟨.str s, m, b⟩ ⟨.int x, m', b'⟩ = .ok ⟨.str (List.replicate x.toNat s).flatten, .pl, true⟩ := if_pos h
theorem atI_nat {α : Type} {xs : List α} {i : Int} {a : α} (h0 : 0 ≤ i) (h : xs[i.toNat]? = some a) : atI xs i = some a := by
  unfold atI ixN
  have hl := (List.getElem?_eq_some_iff.mp h).1
  rw [if_pos h0, if_pos (by omega)]
  exact h
theorem gAt_l {d : D} (h : atI l x = some d) : gAt ⟨.lst l, m, b⟩ ⟨.int x, m', b'⟩ = .ok ⟨d, .pl, b || scalar d⟩ := by
  show ofO (atI l x) _ = _
  rw [h]
  rfl
theorem gAt_k {d : D} (h : atI l x = some d) : gAt ⟨.lsk l, m, b⟩ ⟨.int x, m', b'⟩ = .ok ⟨d, .pl, b || scalar d⟩ := by
  show ofO (atI l x) _ = _
  rw [h]
  rfl
theorem gAt_t {d : D} (h : atI l x = some d) : gAt ⟨.tup l, m, b⟩ ⟨.int x, m', b'⟩ = .ok ⟨d, .pl, b || scalar d⟩ := by
  show ofO (atI l x) _ = _
  rw [h]
  rfl
theorem gAt_s {k : Nat} (h : atI s x = some k) (hs : s.length ≤ 1000000) : gAt ⟨.str s, m, b⟩ ⟨.int x, m', b'⟩ = .ok ⟨.str [k], .pl, true⟩ := by
  show ofO (atI s x) _ = _
  rw [h]
  exact if_pos hs
end
/-! loops -/
theorem loop_pred {h : D → Bool → En → Option En} {b : Bool} {g : En → Out} (I : Nat → En → Prop) : ∀ (ds : List D) (k : Nat) (ρ : En), I k ρ →
    (∀ (i : Nat) (d : D) (ρ : En), ds[i]? = some d → I (k + i) ρ → ∃ ρ1 ρ2, h d b ρ = some ρ1 ∧ (g ρ1 = .next ρ2 ∨ g ρ1 = .cont ρ2) ∧ I (k + i + 1) ρ2) → ∃ ρ', loopF h b g ds ρ = .next ρ' ∧ I (k + ds.length) ρ'
  | [], k, ρ, h0, _ => ⟨ρ, rfl, h0⟩
  | d :: ds, k, ρ, h0, hs => by
    obtain ⟨ρ1, ρ2, e1, e2, h2⟩ := hs 0 d ρ rfl h0
    have e3 : loopF h b g (d :: ds) ρ = loopF h b g ds ρ2 := by
      rw [loopF, e1]
      rcases e2 with e2 | e2
      · show (match g ρ1 with
          | .next ρ2 => loopF h b g ds ρ2
          | .cont ρ2 => loopF h b g ds ρ2
          | .brk ρ2 => .next ρ2
          | o => o) = _
        rw [e2]
      · show (match g ρ1 with
          | .next ρ2 => loopF h b g ds ρ2
          | .cont ρ2 => loopF h b g ds ρ2
          | .brk ρ2 => .next ρ2
          | o => o) = _
        rw [e2]
    obtain ⟨ρ', e4, h4⟩ := loop_pred I ds (k + 1) ρ2 h2 (fun i d ρ hi hI => by
      have z : k + 1 + i = k + (i + 1) := by omega
      rw [z] at hI ⊢
      exact hs (i + 1) d ρ (by simpa using hi) hI)
    refine ⟨ρ', e3.trans e4, ?_⟩
    have z : k + (d :: ds).length = k + 1 + ds.length := by simp; omega
    rw [z]
    exact h4
theorem rng_get {lo : Int} {n i : Nat} {d : D} (h : (rng lo n)[i]? = some d) : i < n ∧ d = .int (lo + i) := by
  unfold rng at h
  rw [List.getElem?_map] at h
  obtain ⟨j, h1, h2⟩ := Option.map_eq_some_iff.mp h
  obtain ⟨h3, h4⟩ := List.getElem?_eq_some_iff.mp h1
  rw [List.getElem_range] at h4
  rw [List.length_range] at h3
  subst h4
  exact ⟨h3, h2.symm⟩
@[simp] theorem rng_len {lo : Int} {n : Nat} : (rng lo n).length = n := by simp [rng]
@[simp] theorem hName_ap {d : D} {b : Bool} : hName i d b ρ = if i < ρ.length then some (ρ.set i (.sh d (b || scalar d))) else none := rfl
end
end Ev
set_option maxHeartbeats 1000000
/-! Pl2: slots computed. -/
namespace Ev
open PySem L2

def slV : SV → R Vl
  | .sh d b => .ok ⟨d, .pl, b || scalar d⟩
  | .ow d b => .ok ⟨d, .bo, b⟩
  | _ => .bad
@[simp] theorem slV_sh {d : D} {b : Bool} : slV (.sh d b) = .ok ⟨d, .pl, b || scalar d⟩ := rfl
@[simp] theorem slV_ow {d : D} {b : Bool} : slV (.ow d b) = .ok ⟨d, .bo, b⟩ := rfl
section
variable {f : En → R Vl} {g : En → Out} {ρ : En} {i : Nat}
@[simp] theorem var_0 {x : SV} : eVar 0 (x :: ρ) = slV x := by cases x <;> rfl
@[simp] theorem var_s {x : SV} : eVar (i + 1) (x :: ρ) = eVar i ρ := rfl
def appV (ρ : En) (i : Nat) (f : En → R Vl) : SV → Out
  | .ow (.lst l) b => (f ρ).toOut ρ fun a => if nb? a = true ∧ l.length < 1000000 then .next (ρ.set i (.ow (.lst (l ++ [a.d])) (b && (a.f || scalar a.d)))) else .bad
  | _ => .bad
@[simp] theorem appV_ow {l : List D} {b : Bool} : appV ρ i f (.ow (.lst l) b) = (f ρ).toOut ρ fun a => if nb? a = true ∧ l.length < 1000000 then .next (ρ.set i (.ow (.lst (l ++ [a.d])) (b && (a.f || scalar a.d)))) else .bad := rfl
theorem app_at {x : SV} (h : ρ[i]? = some x) : sApp i f ρ = appV ρ i f x := by
  unfold sApp appV
  rw [h]
  cases x with
  | ow d b => cases d <;> rfl
  | _ => rfl
theorem bodyR_ret {n : Nat} {ds : List D} {a : Vl} (h : g (enStart n ds) = .ret a) : bodyR g n ds = .ok (a.d, a.f) := by
  unfold bodyR
  rw [h]
theorem bodyR_exc {n : Nat} {ds : List D} {ρ : En} {c : Nat} {l : List D} (h : g (enStart n ds) = .exc ρ c l) : bodyR g n ds = .exc c l := by
  unfold bodyR
  rw [h]
end
end Ev
set_option maxHeartbeats 1000000
/-! Pl3: comprehensions, joins, stores computed. -/
namespace Ev
open PySem L2

section
variable {f fj el : En → R Vl} {g g1 g2 : En → Out} {ρ ρ1 : En} {i j : Nat} {b : Bool} {t : En → R Bool} {h : D → Bool → En → Option En} {it : En → R Itm}
theorem seq_nx {o : Out} (h1 : g1 ρ = .next ρ1) (h2 : g2 ρ1 = o) : sSeq g1 g2 ρ = o := by
  show (g1 ρ).then g2 = o
  rw [h1]
  exact h2
theorem seq_ret {a : Vl} (h1 : g1 ρ = .ret a) : sSeq g1 g2 ρ = .ret a := by
  show (g1 ρ).then g2 = _
  rw [h1]
  rfl
theorem seq_exc {c : Nat} {l : List D} (h1 : g1 ρ = .exc ρ1 c l) : sSeq g1 g2 ρ = .exc ρ1 c l := by
  show (g1 ρ).then g2 = _
  rw [h1]
  rfl
theorem lcF_pred : ∀ {ds : List D} (P : Nat → D → Prop), (∀ (i : Nat) (d : D), ds[i]? = some d → ∃ (ρ1 : En) (y : D) (m : Mk3) (c : Bool), h d b ρ = some ρ1 ∧ t ρ1 = .ok true ∧ el ρ1 = .ok ⟨y, m, c⟩ ∧ nb? ⟨y, m, c⟩ = true ∧ (c || scalar y) = true ∧ P i y) →
    ∃ ys : List D, lcF h b t el ρ ds = .ok (ys, true) ∧ ys.length = ds.length ∧ ∀ (i : Nat) (y : D), ys[i]? = some y → P i y
  | [], P, _ => ⟨[], rfl, rfl, fun i y hy => by simp at hy⟩
  | d :: ds, P, hs => by
    obtain ⟨ρ1, y, m, c, h1, h2, h3, h4, h5, h6⟩ := hs 0 d rfl
    obtain ⟨ys, e1, e2, e3⟩ := lcF_pred (ds := ds) (fun i y => P (i + 1) y) (fun i d hd => hs (i + 1) d (by simpa using hd))
    refine ⟨y :: ys, ?_, by simp [e2], fun i z hz => ?_⟩
    · unfold lcF
      simp only [h1, h2, h3, e1, h4, if_true, h5, Bool.true_and]
    · cases i with
      | zero => simp at hz; subst hz; exact h6
      | succ i => exact e3 i z (by simpa using hz)
/-- .. with a test, exactly -/
theorem lcF_fm (p : D → Bool) (G : D → D) : ∀ {ds : List D}, (∀ d ∈ ds, ∃ ρ1 : En, h d b ρ = some ρ1 ∧ t ρ1 = .ok (p d) ∧ (p d = true → ∃ (m : Mk3) (c : Bool), el ρ1 = .ok ⟨G d, m, c⟩ ∧ nb? ⟨G d, m, c⟩ = true ∧ (c || scalar (G d)) = true)) →
    lcF h b t el ρ ds = .ok ((ds.filter p).map G, true)
  | [], _ => rfl
  | d :: ds, hs => by
    obtain ⟨ρ1, h1, h2, h3⟩ := hs d (List.mem_cons_self ..)
    have e1 := lcF_fm p G (ds := ds) (fun d hd => hs d (List.mem_cons_of_mem _ hd))
    unfold lcF
    cases hp : p d with
    | true =>
      obtain ⟨m, c, h4, h5, h6⟩ := h3 hp
      rw [hp] at h2
      simp only [h1, h2, h4, e1, h5, if_true, h6, Bool.true_and, List.filter_cons_of_pos hp, List.map_cons]
    | false =>
      rw [hp] at h2
      have : List.filter p (d :: ds) = List.filter p ds := List.filter_cons_of_neg (by rw [hp]; decide)
      simp only [h1, h2, e1, this]
theorem lc_at {a : Itm} {own : List Nat} {p : List D × Bool} (hi : it ρ = .ok a) (ho : own.all (fun i => !isOw ρ i) = true) (hl : a.ds.length ≤ 1000000) (e : lcF h a.f t el (wipeE ρ own) a.ds = .ok p) : eLc it h t el own ρ = .ok ⟨.lst p.1, .nw, p.2⟩ := by
  unfold eLc
  rw [hi, bind_ok', if_pos ⟨ho, hl⟩, e]
theorem var_set {d : D} {c : Bool} (hj : j < ρ.length) : eVar j (ρ.set j (.sh d c)) = .ok ⟨d, .pl, c || scalar d⟩ := var_sh (by rw [List.getElem?_set_self hj])
def bits (l : List Int) : List Nat := l.map fun b => if b = 0 then 48 else 49
@[simp] theorem bits_len {l : List Int} : (bits l).length = l.length := by simp [bits]
theorem strs_one : ∀ l : List Nat, strs? (l.map fun c => .str [c]) = some (l.map fun c => [c])
  | [] => rfl
  | c :: l => by
    have e := strs?_map ((c :: l).map fun c => [c])
    rw [List.map_map] at e
    exact e
theorem join_one : ∀ l : List Nat, joinD [] (l.map fun c => [c]) = l
  | [] => rfl
  | [c] => rfl
  | c :: d :: l => by
    have e := join_one (d :: l)
    simp only [List.map_cons] at e ⊢
    unfold joinD
    rw [e]
    rfl
theorem gJoin_one {y : D} {m : Mk3} {c : Bool} {l : List Nat} (hy : items? y = some (l.map fun c => .str [c])) (hl : l.length ≤ 1000000) : gJoin [] ⟨y, m, c⟩ = .ok ⟨.str l, .pl, true⟩ := by
  unfold gJoin
  show ofO (items? y) _ = _
  rw [hy, ofO_some, strs_one, ofO_some]
  have e : ((l.map fun c => [c]).map (·.length)).sum + (l.map fun c => [c]).length * ([] : List Nat).length ≤ 1000000 := by
    have : ((l.map fun c => [c]).map (·.length)).sum = l.length := by
      rw [List.map_map]
      have : (List.length ∘ fun c : Nat => [c]) = fun _ => 1 := rfl
      rw [this]
      clear hy hl this
      induction l with
      | nil => rfl
      | cons c l ih => simp [ih]; omega
    rw [this]
    simpa using hl
  rw [if_pos e, join_one]
  rfl
/-- ''.join(['01'[b] for b in l]) -/
theorem join_bits {l : List Int} {a : Itm} (hi : it ρ = .ok a) (ha : a.ds = l.map .int) (hl : l.length ≤ 1000000) (hb : ∀ x ∈ l, x = 0 ∨ x = 1) (hj : j < ρ.length) (ho : isOw ρ j = false) :
    eJoin (eLit (.str [])) (eLc it (hName j) tTrue (e2 gAt (eLit (.str [48, 49])) (eVar j)) [j]) ρ = .ok ⟨.str (bits l), .pl, true⟩ := by
  have e1 := lcF_fm (h := hName j) (b := a.f) (t := tTrue) (el := e2 gAt (eLit (.str [48, 49])) (eVar j)) (ρ := wipeE ρ [j]) (fun _ => true) (fun d => match d with
    | .int x => .str [if x = 0 then 48 else 49]
    | _ => .non) (ds := a.ds) (fun d hd => by
      rw [ha] at hd
      obtain ⟨x, hx, rfl⟩ := List.mem_map.mp hd
      have hj2 : j < (ρ.set j .un).length := by simpa using hj
      refine ⟨(ρ.set j .un).set j (.sh (.int x) true), ?_, rfl, fun _ => ⟨.pl, true, ?_, rfl, rfl⟩⟩
      · show hName j _ _ (ρ.set j .un) = _
        rw [hName_ap, if_pos hj2]
        simp
      · rw [e2_ap, lit_ap, bind_ok', var_set hj2, bind_ok']
        rcases hb x hx with z | z
        · subst z; rfl
        · subst z; rfl)
  rw [show List.filter (fun _ => true) a.ds = a.ds from List.filter_eq_self.mpr (fun _ _ => rfl), ha, List.map_map] at e1
  unfold eJoin
  rw [lit_ap, bind_ok']
  show ofO (some []) _ = _
  rw [ofO_some, lc_at hi (by simp [ho]) (by rw [ha]; simpa using hl) (by rw [ha]; exact e1), bind_ok']
  refine gJoin_one (l := bits l) ?_ (by simpa using hl)
  unfold bits
  rw [List.map_map]
  rfl
/-- x[k] = e, a list -/
theorem set_at {l : List D} {k : Int} {y : D} {m m' : Mk3} {c c' : Bool} (hi : ρ[i]? = some (.ow (.lst l) b)) (hj : fj ρ = .ok ⟨.int k, m, c⟩) (hk : 0 ≤ k ∧ k < l.length) (hf : f ρ = .ok ⟨y, m', c'⟩) (hn : nb? ⟨y, m', c'⟩ = true) :
    sSetA i fj f ρ = .next (ρ.set i (.ow (.lst (l.set k.toNat y)) (b && (c' || scalar y)))) := by
  unfold sSetA sSetI
  simp only [hi, hf, hj, out_ok]
  have e : ixN l.length k = some k.toNat := by
    unfold ixN
    rw [if_pos hk.1, if_pos hk.2]
  simp only [int?, e, hn, if_true]
theorem cEq_i {x y : Int} {m m' : Mk3} {c c' : Bool} : cEq ⟨.int x, m, c⟩ ⟨.int y, m', c'⟩ = some (decide (x = y)) := by
  show (if (PyData.int x).depth ≤ 64 ∧ (PyData.int y).depth ≤ 64 then some ((PyData.int x).eqv (.int y)) else none) = _
  rw [if_pos ⟨by simp [PyData.depth], by simp [PyData.depth]⟩]
  simp only [PyData.eqv, Option.some.injEq]
  rw [Bool.eq_iff_iff]
  simp
end
end Ev
set_option maxHeartbeats 1000000
/-! Pl4: comprehensions over ranges. -/
namespace Ev
open PySem L2
section
variable {el : En → R Vl} {ρ : En} {j : Nat} {it : En → R Itm}
theorem lc_ints (n : Nat) (P : Nat → Int → Prop) (hit : it ρ = .ok ⟨rng 0 n, true, false⟩) (hn : n ≤ 1000000) (ho : isOw ρ j = false) (hj : j < ρ.length)
    (hel : ∀ c : Nat, c < n → ∃ y : Int, el ((ρ.set j .un).set j (.sh (.int c) true)) = .ok ⟨.int y, .pl, true⟩ ∧ P c y) :
    ∃ ys : List Int, eLc it (hName j) tTrue el [j] ρ = .ok ⟨.lst (ys.map .int), .nw, true⟩ ∧ ys.length = n ∧ ∀ (i : Nat) (y : Int), ys[i]? = some y → P i y := by
  obtain ⟨ys, e1, e2, e3⟩ := lcF_pred (h := hName j) (b := true) (t := tTrue) (el := el) (ρ := wipeE ρ [j]) (ds := rng 0 n) (fun i d => ∃ y : Int, d = .int y ∧ P i y) (fun i d hd => by
    obtain ⟨hi, rfl⟩ := rng_get hd
    obtain ⟨y, h1, h2⟩ := hel i hi
    refine ⟨(ρ.set j .un).set j (.sh (.int i) true), .int y, .pl, true, ?_, rfl, h1, rfl, rfl, y, rfl, h2⟩
    show hName j _ _ (ρ.set j .un) = _
    rw [hName_ap, if_pos (by simpa using hj)]
    simp)
  have key : ∀ (ys : List D) (P : Nat → Int → Prop), (∀ (i : Nat) (d : D), ys[i]? = some d → ∃ y : Int, d = .int y ∧ P i y) → ∃ zs : List Int, ys = zs.map .int ∧ ∀ (i : Nat) (y : Int), zs[i]? = some y → P i y := by
    intro ys
    induction ys with
    | nil => exact fun P _ => ⟨[], rfl, fun i y h => by simp at h⟩
    | cons d ys ih =>
      intro P h
      obtain ⟨y, rfl, h0⟩ := h 0 d rfl
      obtain ⟨zs, rfl, hz⟩ := ih (fun i y => P (i + 1) y) (fun i d hd => h (i + 1) d (by simpa using hd))
      refine ⟨y :: zs, rfl, fun i x hx => ?_⟩
      cases i with
      | zero => simp at hx; subst hx; exact h0
      | succ i => exact hz i x (by simpa using hx)
  obtain ⟨zs, rfl, hz⟩ := key ys P e3
  refine ⟨zs, lc_at hit (by simp [ho]) (by simpa using hn) e1, by simpa using e2, hz⟩
theorem iR1_at {f : En → R Vl} {n : Int} {m : Mk3} {b : Bool} (h : f ρ = .ok ⟨.int n, m, b⟩) (hn : -1000000000 ≤ n ∧ n ≤ 1000000000) : iR1 f ρ = .ok ⟨rng 0 n.toNat, true, false⟩ := by
  unfold iR1
  rw [h, bind_ok']
  show ofO (some n) _ = _
  rw [ofO_some, if_pos hn]
theorem sum_bits : ∀ {l : List Int}, (∀ x ∈ l, x = 0 ∨ x = 1) → 0 ≤ l.sum ∧ (l.sum = 0 → ∀ x ∈ l, x = 0) ∧ (l.sum ≠ 0 → 1 ∈ l)
  | [], _ => ⟨by simp, by simp, by simp⟩
  | x :: l, h => by
    obtain ⟨h1, h2, h3⟩ := sum_bits (l := l) fun y hy => h y (List.mem_cons_of_mem _ hy)
    have hx := h x (List.mem_cons_self ..)
    rw [List.sum_cons]
    refine ⟨by omega, fun e y hy => ?_, fun e => ?_⟩
    · rcases List.mem_cons.mp hy with z | z
      · omega
      · exact h2 (by omega) y z
    · rcases hx with z | z
      · exact List.mem_cons_of_mem _ (h3 (by omega))
      · subst z; exact List.mem_cons_self ..
theorem gSum_i {l : List Int} {m : Mk3} {b : Bool} : gSum ⟨.lst (l.map .int), m, b⟩ = .ok ⟨.int l.sum, .pl, true⟩ := by
  unfold gSum
  show ofO (some (l.map D.int)) _ = _
  rw [ofO_some, ints?_map]
  rfl
theorem gAt_ints {l : List Int} {m m' : Mk3} {b b' : Bool} {i : Int} {x : Int} (h0 : 0 ≤ i) (h : l[i.toNat]? = some x) : gAt ⟨.lst (l.map .int), m, b⟩ ⟨.int i, m', b'⟩ = .ok ⟨.int x, .pl, true⟩ := by
  rw [gAt_l (d := .int x) (atI_nat h0 (by simp [h]))]
  simp
theorem iAll_l {f : En → R Vl} {l : List D} {m : Mk3} {b : Bool} (h : f ρ = .ok ⟨.lst l, m, b⟩) : iAll f ρ = .ok ⟨l, b, isBo ⟨.lst l, m, b⟩⟩ := by
  unfold iAll
  rw [h]
  rfl
end
end Ev
set_option maxHeartbeats 1000000
/-! Pl5: slices, texts. -/
namespace Ev
open PySem L2
section
variable {f : En → R Vl} {lo hi : En → R (Option Int)} {ρ : En} {m m' : Mk3} {b b' : Bool}
@[simp] theorem sl_ap : eSl f lo hi ρ = (f ρ).bind fun x => (lo ρ).bind fun l => (hi ρ).bind fun u => gSl x l u := rfl
@[simp] theorem oNone_ap : oNone ρ = .ok none := rfl
@[simp] theorem oSome_ap : oSome f ρ = (f ρ).bind fun x => ofO (int? x) fun i => .ok (some i) := rfl
@[simp] theorem int_ap {i : Int} : int? ⟨.int i, m, b⟩ = some i := rfl
theorem cut_map {α β : Type} (g : α → β) (l : List α) (lo hi : Option Int) : cut (l.map g) lo hi = (cut l lo hi).map g := by
  unfold cut
  rw [List.length_map, List.map_take, List.map_drop]
@[simp] theorem gSl_l {l : List D} {lo hi : Option Int} : gSl ⟨.lst l, m, b⟩ lo hi = .ok ⟨.lst (cut l lo hi), .nw, b⟩ := rfl
theorem cut_mem {α : Type} {l : List α} {lo hi : Option Int} {x : α} (h : x ∈ cut l lo hi) : x ∈ l := List.mem_of_mem_drop (List.mem_of_mem_take h)
theorem cut_len {α : Type} (l : List α) (lo hi : Option Int) : (cut l lo hi).length ≤ l.length := by
  unfold cut
  rw [List.length_take, List.length_drop]
  omega
theorem cut_to {α : Type} (l : List α) {n : Nat} (h : n ≤ l.length) : cut l none (some (n : Int)) = l.take n := by
  unfold cut
  rw [HT.sIx_none, HT.sIx_nat]
  simp [Nat.min_eq_left h]
theorem gLen_l {l : List D} : gLen ⟨.lst l, m, b⟩ = .ok ⟨.int l.length, .pl, true⟩ := rfl
theorem gLen_t {l : List D} : gLen ⟨.tup l, m, b⟩ = .ok ⟨.int l.length, .pl, true⟩ := rfl
theorem gLen_s {l : List Nat} (h : l.length ≤ 1000000) : gLen ⟨.str l, m, b⟩ = .ok ⟨.int l.length, .pl, true⟩ := by
  unfold gLen
  first | exact if_pos h | rfl | simp [h]
theorem gMax_i {x y : Int} : gMax2 ⟨.int x, m, b⟩ ⟨.int y, m', b'⟩ = .ok ⟨.int (if y > x then y else x), .pl, true⟩ := rfl
theorem in_s {c : Nat} {l : List Nat} : cInA ⟨.str [c], m, b⟩ ⟨.str l, m', b'⟩ = some (decide (c ∈ l)) := rfl
theorem nin_s {c : Nat} {l : List Nat} : cNinA ⟨.str [c], m, b⟩ ⟨.str l, m', b'⟩ = some (!decide (c ∈ l)) := rfl
theorem cEq_s {c d : Nat} (hc : c < 0x110000) (hd : d < 0x110000) : cEq ⟨.str [c], m, b⟩ ⟨.str [d], m', b'⟩ = some (decide (c = d)) := by
  have e1 : py (.str [c]) = some (.str ⟨[c].toArray⟩) := by
    unfold py
    rw [if_pos (by simp [PyData.strOk, hc])]
  have e2 : py (.str [d]) = some (.str ⟨[d].toArray⟩) := by
    unfold py
    rw [if_pos (by simp [PyData.strOk, hd])]
  show eqD (.str [c]) (.str [d]) = _
  unfold eqD
  rw [e1, e2]
  show (if _ then _ else _) = _
  rw [if_pos ⟨by simp [PyData.depth], by simp [PyData.depth]⟩]
  simp only [PyData.eqv, Option.some.injEq]
  rw [arr_beq, Bool.eq_iff_iff]
  simp
theorem isOw_of {x : SV} {i : Nat} (h : ρ[i]? = some x) (hx : isOw [x] 0 = false) : isOw ρ i = false := by
  unfold isOw at hx ⊢
  rw [h]
  exact hx
end
end Ev
set_option maxHeartbeats 1000000
/-! Pl6: calls, fields, texts, loops that may return. -/
namespace Ev
open PySem L2
section
variable {f fo : En → R Vl} {fs : En → R (List Vl)} {g : En → Out} {ρ : En} {m m' : Mk3} {b b' : Bool} {i : Nat}
@[simp] theorem meth_ap {c : Nat} {Φ : Sm} {n : Nat} {dds : List D} : eMeth c Φ n dds fo fs ρ = (fo ρ).bind fun x => match x.d with
  | .obj c' _ => if c' = c then (fs ρ).bind fun as => if as.length + dds.length + 1 = n then callR Φ (x :: as) dds else .bad else .bad
  | _ => .bad := rfl
@[simp] theorem new_ap {c : Nat} {Ψ : Sf} {n : Nat} {dds : List D} : eNew c Ψ n dds fs ρ = (fs ρ).bind fun as => if as.length + dds.length = n then newR c Ψ as dds else .bad := rfl
theorem newR_ok {c : Nat} {Ψ : Sf} {as : List Vl} {dds ds : List D} {k : Bool} {r : List D × Bool} (h : plain as = some (ds, k)) (e : Ψ (ds ++ dds) = .ok r) : newR c Ψ as dds = .ok ⟨.obj c r.1, .pl, r.2⟩ := by
  unfold newR
  rw [h]
  show (match Ψ (ds ++ dds) with
    | .ok r => R.ok (⟨.obj c r.1, .pl, r.2⟩ : Vl)
    | .exc k l => .exc k l
    | .bad => .bad) = _
  rw [e]
@[simp] theorem isi_ap {tab : D → Option Bool} : eIsi tab f ρ = (f ρ).bind fun x => ofO (tab x.d) fun b => .ok ⟨.bl b, .pl, true⟩ := rfl
@[simp] theorem gFld_ap {tab : List (Nat × Nat)} {c : Nat} {l : List D} : gFld tab ⟨.obj c l, m, b⟩ = ofO (tab.lookup c) fun k => ofO l[k]? fun d => .ok ⟨d, .pl, b || scalar d⟩ := rfl
@[simp] theorem gLen_lst {l : List D} : gLen ⟨.lst l, m, b⟩ = .ok ⟨.int l.length, .pl, true⟩ := rfl
@[simp] theorem gLen_tup {l : List D} : gLen ⟨.tup l, m, b⟩ = .ok ⟨.int l.length, .pl, true⟩ := rfl
@[simp] theorem gTuple_l {l : List D} : gTuple ⟨.lst l, m, b⟩ = .ok ⟨.tup l, .pl, b⟩ := rfl
@[simp] theorem gTuple_t {l : List D} : gTuple ⟨.tup l, m, b⟩ = .ok ⟨.tup l, .pl, b⟩ := rfl
@[simp] theorem gList_l {l : List D} : gList ⟨.lst l, m, b⟩ = .ok ⟨.lst l, .nw, b⟩ := rfl
@[simp] theorem gList_t {l : List D} : gList ⟨.tup l, m, b⟩ = .ok ⟨.lst l, .nw, b⟩ := rfl
@[simp] theorem all_ap {l : List D} : iAll f ρ = (f ρ).bind fun x => match x.d with
  | .lst l => .ok ⟨l, x.f, isBo x⟩
  | .lsk l => .ok ⟨l, x.f, isBo x⟩
  | .tup l => .ok ⟨l, x.f, false⟩
  | .str l => .ok ⟨l.map fun c => .str [c], true, false⟩
  | _ => .bad := rfl
@[simp] theorem raise0_ap {c : Nat} : sRaise0 c ρ = .exc ρ c [] := rfl
@[simp] theorem neg_ap {x : Int} : (f ρ = .ok ⟨.int x, m, b⟩) → eNeg f ρ = .ok ⟨.int (-x), .pl, true⟩ := fun h => by
  unfold eNeg
  rw [h]
  rfl
theorem cInt {x : Int} : int? ⟨.int x, m, b⟩ = some x := rfl
/-! texts -/
theorem py_str {s : List Nat} (h : ∀ c ∈ s, c < 0x110000) : py (.str s) = some (.str ⟨s.toArray⟩) := by
  unfold py
  rw [if_pos]
  simp only [PyData.strOk, List.all_toArray, List.all_eq_true, decide_eq_true_eq]
  exact h
theorem cEq_str {s t : List Nat} (hs : ∀ c ∈ s, c < 0x110000) (ht : ∀ c ∈ t, c < 0x110000) : cEq ⟨.str s, m, b⟩ ⟨.str t, m', b'⟩ = some (decide (s = t)) := by
  show eqD (.str s) (.str t) = _
  unfold eqD
  rw [py_str hs, py_str ht]
  show (if _ then _ else _) = _
  rw [if_pos ⟨by simp [PyData.depth], by simp [PyData.depth]⟩]
  simp only [PyData.eqv, Option.some.injEq]
  rw [arr_beq, Bool.eq_iff_iff]
  simp
theorem cNe_str {s t : List Nat} (hs : ∀ c ∈ s, c < 0x110000) (ht : ∀ c ∈ t, c < 0x110000) : cNe ⟨.str s, m, b⟩ ⟨.str t, m', b'⟩ = some (!decide (s = t)) := by
  show (cEq _ _).map _ = _
  rw [cEq_str hs ht]
  rfl
theorem cNe_i {x y : Int} : cNe ⟨.int x, m, b⟩ ⟨.int y, m', b'⟩ = some (!decide (x = y)) := by
  show (cEq _ _).map _ = _
  rw [cEq_i]
  rfl
theorem cEq_b {x y : Bool} : cEq ⟨.bl x, m, b⟩ ⟨.bl y, m', b'⟩ = some (x == y) := by
  show (if (PyData.bool x).depth ≤ 64 ∧ (PyData.bool y).depth ≤ 64 then some ((PyData.bool x).eqv (.bool y)) else none) = _
  rw [if_pos ⟨by simp [PyData.depth], by simp [PyData.depth]⟩]
  cases x <;> cases y <;> rfl
theorem cNe_b {x y : Bool} : cNe ⟨.bl x, m, b⟩ ⟨.bl y, m', b'⟩ = some (!(x == y)) := by
  show (cEq _ _).map _ = _
  rw [cEq_b]
  rfl
theorem gSl_s {l : List Nat} {lo hi : Option Int} (h : l.length ≤ 1000000) : gSl ⟨.str l, m, b⟩ lo hi = .ok ⟨.str (cut l lo hi), .pl, true⟩ := if_pos h
theorem atI_eq {α : Type} {xs : List α} {i : Int} {k : Nat} (h : i = k) : atI xs i = xs[k]? := by
  subst h
  unfold atI ixN
  by_cases hk : k < xs.length
  · rw [if_pos (by omega), if_pos (by omega)]
    simp
  · rw [if_pos (by omega), if_neg (by omega)]
    rw [List.getElem?_eq_none (by omega)]
    rfl
theorem cut_ft {α : Type} (l : List α) {k n : Nat} (h : n ≤ l.length) (hk : k ≤ l.length) : cut l (some (k : Int)) (some (n : Int)) = (l.drop k).take (n - k) := by
  unfold cut
  rw [HT.sIx_nat, HT.sIx_nat]
  simp [Nat.min_eq_left h, Nat.min_eq_left hk]
/-! fields stored -/
theorem fld_at {c k : Nat} {l : List D} {g : Bool} (hi : ρ[i]? = some (.ow (.obj c l) g)) (hl : l.length = k) : sFld i c k f ρ = (f ρ).toOut ρ fun a => if nb? a = true then .next (ρ.set i (.ow (.obj c (l ++ [a.d])) (g && (a.f || scalar a.d)))) else .bad := by
  unfold sFld
  cases hf : f ρ with
  | ok a => simp [hf, hi, hl]
  | exc c l => rfl
  | bad => rfl
theorem initR_ok {c n : Nat} {ds l : List D} {k : Bool} {ρ' : En} (h : g (SV.ow (.obj c []) true :: enStart (n - 1) ds) = .next ρ') (h0 : ρ'[0]? = some (.ow (.obj c l) k)) : initR c g n ds = .ok (l, k) := by
  unfold initR
  rw [h]
  show (match (ρ'[0]? : Option SV) with
    | some (.ow (.obj c' l) f) => if c' = c then R.ok (l, f) else .bad
    | _ => .bad) = _
  rw [h0]
  exact if_pos rfl
end
/-! loops -/
section
variable {h : D → Bool → En → Option En} {b : Bool} {g : En → Out} {t : En → R Bool}
/-- a loop whose body goes on, or leaves with what R says -/
theorem loop_or (I : Nat → En → Prop) (Rt : Out → Prop) : ∀ (ds : List D) (k : Nat) (ρ : En), I k ρ →
    (∀ (i : Nat) (d : D) (ρ : En), ds[i]? = some d → I (k + i) ρ → ∃ ρ1, h d b ρ = some ρ1 ∧ ((∃ ρ2, g ρ1 = .next ρ2 ∧ I (k + i + 1) ρ2) ∨ (∃ a, g ρ1 = .ret a ∧ Rt (.ret a)) ∨ ∃ ρ2 c l, g ρ1 = .exc ρ2 c l ∧ Rt (.exc ρ2 c l))) →
    (∃ ρ', loopF h b g ds ρ = .next ρ' ∧ I (k + ds.length) ρ') ∨ Rt (loopF h b g ds ρ)
  | [], k, ρ, h0, _ => .inl ⟨ρ, rfl, h0⟩
  | d :: ds, k, ρ, h0, hs => by
    obtain ⟨ρ1, e1, hh⟩ := hs 0 d ρ rfl h0
    rcases hh with ⟨ρ2, e2, h2⟩ | ⟨a, e2, h2⟩ | ⟨ρ2, c, l, e2, h2⟩
    · have e3 : loopF h b g (d :: ds) ρ = loopF h b g ds ρ2 := by
        rw [loopF, e1]
        show (match g ρ1 with
          | .next ρ2 => loopF h b g ds ρ2
          | .cont ρ2 => loopF h b g ds ρ2
          | .brk ρ2 => .next ρ2
          | o => o) = _
        rw [e2]
      rw [e3]
      have z : k + (d :: ds).length = k + 1 + ds.length := by simp; omega
      rw [z]
      exact loop_or I Rt ds (k + 1) ρ2 h2 fun i d ρ hi hI => by
        have z : k + 1 + i = k + (i + 1) := by omega
        rw [z] at hI ⊢
        exact hs (i + 1) d ρ (by simpa using hi) hI
    · refine .inr ?_
      rw [loopF, e1]
      show Rt (match g ρ1 with
        | .next ρ2 => loopF h b g ds ρ2
        | .cont ρ2 => loopF h b g ds ρ2
        | .brk ρ2 => .next ρ2
        | o => o)
      rw [e2]
      exact h2
    · refine .inr ?_
      rw [loopF, e1]
      show Rt (match g ρ1 with
        | .next ρ2 => loopF h b g ds ρ2
        | .cont ρ2 => loopF h b g ds ρ2
        | .brk ρ2 => .next ρ2
        | o => o)
      rw [e2]
      exact h2
/-- a loop that keeps one form of the slots but for its own name -/
theorem loop_keep (E : SV → En) (ds : List D) (x0 : SV) (hs : ∀ d ∈ ds, ∀ x, ∃ ρ1 y, h d b (E x) = some ρ1 ∧ g ρ1 = .next (E y)) : ∃ x, loopF h b g ds (E x0) = .next (E x) := by
  obtain ⟨ρ', e, x, rfl⟩ := loop_pred (h := h) (b := b) (g := g) (fun _ ρ => ∃ x, ρ = E x) ds 0 (E x0) ⟨x0, rfl⟩ fun i d ρ hd ⟨x, hρ⟩ => by
    subst hρ
    obtain ⟨ρ1, y, h1, h2⟩ := hs d (List.mem_of_getElem? hd) x
    exact ⟨ρ1, E y, h1, .inl h2, y, rfl⟩
  exact ⟨x, e⟩
theorem while_run (I : Nat → En → Prop) (Qf : En → Prop) (hs : ∀ n ρ, I n ρ → (t ρ = .ok false ∧ Qf ρ) ∨ (t ρ = .ok true ∧ ∃ ρ2 m, g ρ = .next ρ2 ∧ m < n ∧ I m ρ2)) : ∀ (fuel n : Nat) (ρ : En), n < fuel → I n ρ → ∃ ρ', whileF t g fuel ρ = .next ρ' ∧ Qf ρ'
  | 0, n, ρ, hn, _ => absurd hn (Nat.not_lt_zero _)
  | fuel + 1, n, ρ, hn, hI => by
    rcases hs n ρ hI with ⟨h1, h2⟩ | ⟨h1, ρ2, m, h2, h3, h4⟩
    · refine ⟨ρ, ?_, h2⟩
      rw [whileF, h1]
      rfl
    · obtain ⟨ρ', e, q⟩ := while_run I Qf hs fuel m ρ2 (by omega) h4
      refine ⟨ρ', ?_, q⟩
      rw [whileF, h1]
      show (match g ρ with
        | .next ρ2 => whileF t g fuel ρ2
        | .cont ρ2 => whileF t g fuel ρ2
        | .brk ρ2 => .next ρ2
        | o => o) = _
      rw [h2]
      exact e
end
end Ev
set_option maxHeartbeats 4000000
namespace Pf
open PySem PySem.Spec PyProof.Rows L2 Ev
abbrev tab_cycle : List (Nat × Nat) := [(35, 0)]
abbrev tab_prefix : List (Nat × Nat) := [(35, 1)]
abbrev tab_period : List (Nat × Nat) := [(13, 0), (18, 0)]
abbrev tab_fixed : List (Nat × Nat) := [(18, 1)]
abbrev tab_bands : List (Nat × Nat) := [(18, 2)]
abbrev tab_rows : List (Nat × Nat) := [(13, 1)]
def tt_list : D → Option Bool
  | .obj c _ => (fun k => if k = 35 then some false else if k = 13 then some false else if k = 18 then some false else none) c
  | .non => some false
  | .bl _ => some false
  | .int _ => some false
  | .str _ => some false
  | .lst _ => some true
  | .lsk _ => some true
  | .tup _ => some false
  | .dct _ => some false
def tt_str : D → Option Bool
  | .obj c _ => (fun k => if k = 35 then some false else if k = 13 then some false else if k = 18 then some false else none) c
  | .non => some false
  | .bl _ => some false
  | .int _ => some false
  | .str _ => some true
  | .lst _ => some false
  | .lsk _ => some false
  | .tup _ => some false
  | .dct _ => some false
def tt_PeriodicSet : D → Option Bool
  | .obj c _ => (fun k => if k = 35 then some true else if k = 13 then some false else if k = 18 then some false else none) c
  | .non => some false
  | .bl _ => some false
  | .int _ => some false
  | .str _ => some false
  | .lst _ => some false
  | .lsk _ => some false
  | .tup _ => some false
  | .dct _ => some false
def tt_list_tuple : D → Option Bool
  | .obj c _ => (fun k => if k = 35 then some false else if k = 13 then some false else if k = 18 then some false else none) c
  | .non => some false
  | .bl _ => some false
  | .int _ => some false
  | .str _ => some false
  | .lst _ => some true
  | .lsk _ => some true
  | .tup _ => some true
  | .dct _ => some false
def tt_Band : D → Option Bool
  | .obj c _ => (fun k => if k = 35 then some false else if k = 13 then some true else if k = 18 then some false else none) c
  | .non => some false
  | .bl _ => some false
  | .int _ => some false
  | .str _ => some false
  | .lst _ => some false
  | .lsk _ => some false
  | .tup _ => some false
  | .dct _ => some false
def tt_int : D → Option Bool
  | .obj c _ => (fun k => if k = 35 then some false else if k = 13 then some false else if k = 18 then some false else none) c
  | .non => some false
  | .bl _ => some true
  | .int _ => some true
  | .str _ => some false
  | .lst _ => some false
  | .lsk _ => some false
  | .tup _ => some false
  | .dct _ => some false
def tt_bool : D → Option Bool
  | .obj c _ => (fun k => if k = 35 then some false else if k = 13 then some false else if k = 18 then some false else none) c
  | .non => some false
  | .bl _ => some true
  | .int _ => some false
  | .str _ => some false
  | .lst _ => some false
  | .lsk _ => some false
  | .tup _ => some false
  | .dct _ => some false
def b__law_digits_1 : En → Out := (sSeq (sAsg 5 (e2 gModI (e1 gInt (e2 gAdd (e2 gAdd (e2 gMul (eVar 5) (eLit (.int 48271))) (e2 gMul (eLit (.int 974711)) (eVar 6))) (eLit (.int 12345)))) (eLit (.int 2147483647))))
    (sSeq (sAsg 7 (e2 gModI (e1 gInt (e2 gMul (eVar 5) (e2 gAdd (e2 gDivI (eVar 5) (eLit (.int 65537))) (eLit (.int 3))))) (eLit (.int 2147483629))))
    (sApp 2 (e2 gModI (e2 gDivI (eVar 7) (eLit (.int 19))) (e2 gAt (eVar 1) (eVar 6))))))
def b__law_digits_2 : En → Out := (sSeq (sApp 2 (e2 gModI (e1 gInt (eVar 3)) (eVar 4)))
    (sAsg 3 (e2 gDivI (e1 gInt (eVar 3)) (eVar 4))))
def g__law_digits : En → Out := (sSeq (sOwn 2 (eLst aNil))
    (sSeq (sAsg 3 (e1 gInt (eVar 0)))
    (sSeq (sIf (t2 cGe (eVar 3) (e2 gPowI (eLit (.int 10)) (eLit (.int 18)))) (sSeq (sAsg 3 (e2 gSubI (eVar 3) (e2 gPowI (eLit (.int 10)) (eLit (.int 18)))))
    (sSeq (sFor (iAll (eVar 1)) (hName 4) b__law_digits_2)
    (sRet (eVar 2)))) sNext)
    (sSeq (sAsg 5 (e2 gModI (e1 gInt (eVar 3)) (eLit (.int 2147483629))))
    (sSeq (sFor (iR1 (e1 gLen (eVar 1))) (hName 6) b__law_digits_1)
    (sRet (eVar 2)))))))
def Φ__law_digits : Sm := bodyR g__law_digits 8
def b__law_cell_1 : En → Out := (sAsg 2 (e2 gModI (e1 gInt (e2 gAdd (e2 gMul (eVar 2) (eLit (.int 31))) (e2 gModI (e1 gInt (eVar 3)) (eLit (.int 1000003))))) (eLit (.int 1000003))))
def g__law_cell : En → Out := (sSeq (sIf (t2 cLt (eVar 1) (e1 gLen (eVar 0))) (sRet (e2 gAt (eVar 0) (eVar 1))) sNext)
    (sSeq (sAsg 2 (eLit (.int 17)))
    (sSeq (sFor (iAll (eVar 0)) (hName 3) b__law_cell_1)
    (sRet (e2 gModI (e1 gInt (e2 gMul (e2 gMul (e2 gAdd (eVar 2) (eLit (.int 7))) (e2 gAdd (eVar 1) (eLit (.int 3)))) (eLit (.int 69621)))) (eLit (.int 2147483647)))))))
def Φ__law_cell : Sm := bodyR g__law_cell 4
def b__law_band_1 : En → Out := (sSeq (sOwn 4 (eLc (iR1 (eVar 0)) (hName 5) tTrue (e1 gInt (e2 (gC cGt) (e2 gAt (eVar 1) (e2 gAdd (eLit (.int 1)) (e2 gMul (eLit (.int 2)) (e2 gAdd (e2 gMul (eVar 3) (eVar 0)) (eVar 5))))) (eLit (.int 0)))) [5]))
    (sSeq (sOwn 6 (eLc (iR1 (eVar 0)) (hName 5) tTrue (e2 gAt (eVar 1) (e2 gAdd (eLit (.int 2)) (e2 gMul (eLit (.int 2)) (e2 gAdd (e2 gMul (eVar 3) (eVar 0)) (eVar 5))))) [5]))
    (sSeq (sAsg 7 (e2 gAt (eVar 1) (e2 gAdd (e2 gAdd (eLit (.int 1)) (e2 gMul (e2 gMul (eLit (.int 2)) (eVar 0)) (eVar 0))) (eVar 3))))
    (sSeq (sIf (t2 cLe (e2 gAt (eVar 1) (eLit (.int 0))) (eLit (.int 3))) (sSeq (sIf (t2 cEq (e1 gSum (eVar 4)) (eLit (.int 0))) (sSetA 4 (eVar 3) (eLit (.int 1))) sNext)
    (sSeq (sOwn 6 (eLc (iR1 (eVar 0)) (hName 5) tTrue (e2 gMul (e2 gAt (eVar 6) (eVar 5)) (e2 gAt (eVar 4) (eVar 5))) [5]))
    (sSeq (sIf (tOr' (t2 cEq (e1 gSum (eVar 6)) (eLit (.int 0))) (t2 cEq (e2 gAt (eVar 1) (eLit (.int 0))) (eLit (.int 3)))) (sOwn 6 (e1 gList (eVar 4))) sNext)
    (sAsg 7 (e2 gMul (e2 gAt (eLst (aCons (eVar 7) (aCons (eVar 7) (aCons (eLit (.int 1)) (aCons (eLit (.int 0)) aNil))))) (e2 gAt (eVar 1) (eLit (.int 0)))) (e2 gAt (eVar 4) (eVar 3))))))) sNext)
    (sSeq (sIf (t2 cEq (e2 gAt (eVar 1) (eLit (.int 0))) (eLit (.int 4))) (sOwn 4 (eLc (iR1 (eVar 0)) (hName 5) tTrue (e2 gMul (e2 gAt (eVar 4) (eVar 5)) (e2 gAt (eVar 6) (eVar 5))) [5])) sNext)
    (sSeq (sIf (t2 cEq (e2 gAt (eVar 1) (eLit (.int 0))) (eLit (.int 5))) (sOwn 4 (eLc (iR1 (eVar 0)) (hName 5) tTrue (eLit (.int 0)) [5])) sNext)
    (sSeq (sIf (t2 cEq (e1 gSum (eVar 6)) (eLit (.int 0))) (sSetA 6 (eVar 3) (eLit (.int 1))) sNext)
    (sApp 2 (eLst (aCons (eJoin (eLit (.str [])) (eLc (iAll (eVar 4)) (hName 8) tTrue (e2 gAt (eLit (.str [48, 49])) (eVar 8)) [8])) (aCons (e2 gAt (eLit (.str [48, 49])) (eVar 7)) (aCons (eJoin (eLit (.str [])) (eLc (iAll (eVar 6)) (hName 8) tTrue (e2 gAt (eLit (.str [48, 49])) (eVar 8)) [8])) aNil))))))))))))
def g__law_band : En → Out := (sSeq (sOwn 2 (eLst aNil))
    (sSeq (sFor (iR1 (eVar 0)) (hName 3) b__law_band_1)
    (sRet (eVar 2))))
def Φ__law_band : Sm := bodyR g__law_band 9
def b__law_fixed_1 : En → Out := (sSeq (sAsg 12 (e2 gModI (e1 gInt (e2 gAt (eVar 2) (e2 gAdd (eLit (.int 3)) (eVar 11)))) (e2 gMax2 (eLit (.int 1)) (eVar 8))))
    (sSetA 9 (eVar 12) (e2 gSubI (eLit (.int 1)) (e2 gAt (eVar 9) (eVar 12)))))
def g__law_fixed : En → Out := (sSeq (sAsg 3 (eSl (eVar 2) (oSome (eLit (.int 5))) (oSome (eLit (.int 10)))))
    (sSeq (sAsg 4 (eJoin (eLit (.str [])) (eLc (iAll (eSl (eVar 2) (oSome (eLit (.int 10))) (oSome (e2 gAdd (eLit (.int 10)) (eVar 0))))) (hName 5) tTrue (e2 gAt (eLit (.str [48, 49])) (eVar 5)) [5])))
    (sSeq (sIf (t2 cNinA (eLit (.str [49])) (eVar 4)) (sAsg 4 (e2 gMul (eLit (.str [49])) (eVar 0))) sNext)
    (sSeq (sIf (tAnd' (t2 cLe (e2 gAt (eVar 2) (eLit (.int 0))) (eLit (.int 3))) (t2 cGt (e1 gLen (eVar 1)) (eLit (.int 0)))) (sSeq (sAsg 6 (e2 gAt (eVar 1) (e2 gModI (e1 gInt (e2 gAt (eVar 2) (eLit (.int 2)))) (e1 gLen (eVar 1)))))
    (sSeq (sAsg 7 (e2 gAt (e2 gAt (eVar 6) (e2 gModI (e1 gInt (e2 gAt (eVar 2) (eLit (.int 1)))) (eVar 0))) (eLit (.int 0))))
    (sSeq (sIf (t2 cInA (eLit (.str [49])) (eVar 7)) (sAsg 4 (eVar 7)) sNext)
    (sSeq (sAsg 8 (e2 gAt (eLst (aCons (eLit (.int 0)) (aCons (eLit (.int 0)) (aCons (eLit (.int 3)) (aCons (eLit (.int 5)) aNil))))) (e2 gAt (eVar 2) (eLit (.int 0)))))
    (sSeq (sOwn 9 (eLc (iR1 (eVar 8)) (hName 10) tTrue (e1 gInt (e2 (gC cEq) (e2 gAt (eVar 4) (e2 gModI (e1 gInt (eVar 10)) (eVar 0))) (eLit (.str [49])))) [10]))
    (sSeq (sFor (iR1 (e2 gAt (eLst (aCons (eLit (.int 0)) (aCons (eLit (.int 0)) (aCons (eLit (.int 1)) (aCons (eLit (.int 2)) aNil))))) (e2 gAt (eVar 2) (eLit (.int 0))))) (hName 11) b__law_fixed_1)
    (sRet (eLst (aCons (eJoin (eLit (.str [])) (eLc (iAll (eVar 9)) (hName 5) tTrue (e2 gAt (eLit (.str [48, 49])) (eVar 5)) [5])) (aCons (eVar 4) aNil)))))))))) sNext)
    (sSeq (sIf (t2 cEq (e2 gAt (eVar 2) (eLit (.int 0))) (eLit (.int 4))) (sRet (eLst (aCons (eLit (.str [])) (aCons (e2 gMul (eLit (.str [49])) (eVar 0)) aNil)))) sNext)
    (sRet (eLst (aCons (eJoin (eLit (.str [])) (eLc (iAll (eSl (eVar 3) oNone (oSome (e2 gAt (eVar 2) (eLit (.int 3)))))) (hName 5) tTrue (e2 gAt (eLit (.str [48, 49])) (eVar 5)) [5])) (aCons (eVar 4) aNil)))))))))
def Φ__law_fixed : Sm := bodyR g__law_fixed 13
def g__law_family : En → Out := (sSeq (sAsg 2 (eCall Φ__law_digits 2 [] (aCons (eCall Φ__law_cell 2 [] (aCons (eVar 0) (aCons (eVar 1) aNil))) (aCons (eLst (aCons (eLit (.int 8)) (aCons (eLit (.int 6)) (aCons (eLit (.int 8)) aNil)))) aNil))))
    (sSeq (sAsg 3 (e2 gAt (eLst (aCons (eLit (.int 2)) (aCons (eLit (.int 1)) (aCons (eLit (.int 2)) (aCons (eLit (.int 3)) (aCons (eLit (.int 2)) (aCons (eLit (.int 1)) (aCons (eLit (.int 3)) (aCons (eLit (.int 4)) aNil))))))))) (e2 gAt (eVar 2) (eLit (.int 0)))))
    (sSeq (sAsg 4 (e2 gAdd (e2 gAdd (eLst (aCons (eLit (.int 8)) aNil)) (e2 gMul (eLst (aCons (eLit (.int 3)) (aCons (eLit (.int 2)) aNil))) (e2 gMul (eVar 3) (eVar 3)))) (e2 gMul (eLst (aCons (eLit (.int 2)) aNil)) (eVar 3))))
    (sSeq (sOwn 5 (eLst (aCons (eCall Φ__law_band 2 [] (aCons (eVar 3) (aCons (eCall Φ__law_digits 2 [] (aCons (eCall Φ__law_cell 2 [] (aCons (eVar 0) (aCons (e2 gAdd (eVar 1) (eLit (.int 1))) aNil))) (aCons (eVar 4) aNil))) aNil))) aNil)))
    (sSeq (sIf (t2 cGe (e2 gAt (eVar 2) (eLit (.int 1))) (eLit (.int 4))) (sApp 5 (eCall Φ__law_band 2 [] (aCons (eVar 3) (aCons (eCall Φ__law_digits 2 [] (aCons (eCall Φ__law_cell 2 [] (aCons (eVar 0) (aCons (e2 gAdd (eVar 1) (eLit (.int 2))) aNil))) (aCons (eVar 4) aNil))) aNil)))) sNext)
    (sSeq (sAsg 6 (e2 gAdd (e2 gAdd (eLst (aCons (eLit (.int 8)) (aCons (eLit (.int 4)) (aCons (eLit (.int 2)) (aCons (eLit (.int 5)) (aCons (eLit (.int 5)) aNil)))))) (e2 gMul (eLst (aCons (eLit (.int 2)) aNil)) (eLit (.int 5)))) (e2 gMul (eLst (aCons (eLit (.int 2)) aNil)) (eLit (.int 4)))))
    (sSeq (sAsg 7 (eCall Φ__law_digits 2 [] (aCons (eCall Φ__law_cell 2 [] (aCons (eVar 0) (aCons (e2 gAdd (eVar 1) (eLit (.int 3))) aNil))) (aCons (e2 gMul (eVar 6) (eLit (.int 6))) aNil))))
    (sSeq (sAsg 8 (eLc (iR1 (e2 gAt (eLst (aCons (eLit (.int 1)) (aCons (eLit (.int 2)) (aCons (eLit (.int 0)) (aCons (eLit (.int 3)) (aCons (eLit (.int 1)) (aCons (eLit (.int 2)) (aCons (eLit (.int 0)) (aCons (eLit (.int 6)) aNil))))))))) (e2 gAt (eVar 2) (eLit (.int 2))))) (hName 9) tTrue (eCall Φ__law_fixed 3 [] (aCons (eVar 3) (aCons (eVar 5) (aCons (eSl (eVar 7) (oSome (e2 gMul (eLit (.int 14)) (eVar 9))) (oSome (e2 gAdd (e2 gMul (eLit (.int 14)) (eVar 9)) (eLit (.int 14))))) aNil)))) [9]))
    (sFz 5 (sRet (eLst (aCons (eVar 3) (aCons (eVar 8) (aCons (eVar 5) aNil))))))))))))))
def Φ__law_family : Sm := bodyR g__law_family 10
def b__law_list_1 : En → Out := (sSeq (sAsg 10 (eSl (eVar 7) (oSome (e2 gAdd (eLit (.int 12)) (e2 gMul (eLit (.int 6)) (eVar 9)))) (oSome (e2 gAdd (eLit (.int 18)) (e2 gMul (eLit (.int 6)) (eVar 9))))))
    (sSeq (sIf (tAnd' (t2 cEq (e2 gModI (eVar 9) (eLit (.int 3))) (eLit (.int 1))) (t2 cLt (e2 gModI (e2 gAt (eVar 3) (eLit (.int 1))) (eLit (.int 5))) (eLit (.int 3)))) (sAsg 10 (eLc (iR1 (eLit (.int 6))) (hName 11) tTrue (e1 gInt (e2 (gC cGt) (e2 gAdd (e2 gAt (eVar 7) (e2 gAdd (eLit (.int 12)) (eVar 11))) (e2 gAt (eVar 7) (e2 gAdd (eLit (.int 17)) (eVar 11)))) (eLit (.int 0)))) [11])) sNext)
    (sApp 8 (eLst (aCons (eJoin (eLit (.str [])) (eLc (iAll (eSl (eVar 10) oNone (oSome (e2 gAt (eVar 7) (e2 gMul (eLit (.int 2)) (eVar 9)))))) (hName 12) tTrue (e2 gAt (eLit (.str [48, 49])) (eVar 12)) [12])) (aCons (e2 gAt (eVar 6) (e2 gModI (e1 gInt (e2 gAt (eVar 7) (e2 gAdd (e2 gMul (eLit (.int 2)) (eVar 9)) (eLit (.int 1))))) (e1 gLen (eVar 6)))) aNil))))))
def g__law_list : En → Out := (sSeq (sAsg 3 (eCall Φ__law_digits 2 [] (aCons (eCall Φ__law_cell 2 [] (aCons (eVar 0) (aCons (eVar 1) aNil))) (aCons (eLst (aCons (eLit (.int 8)) (aCons (eLit (.int 60)) aNil))) aNil))))
    (sSeq (sAsg 4 (e2 gAt (eLst (aCons (eLit (.int 2)) (aCons (eLit (.int 2)) (aCons (eLit (.int 2)) (aCons (eLit (.int 3)) (aCons (eLit (.int 1)) (aCons (eLit (.int 2)) (aCons (eLit (.int 3)) (aCons (eLit (.int 4)) aNil))))))))) (e2 gAt (eVar 3) (eLit (.int 0)))))
    (sSeq (sAsg 5 (e2 gAdd (eLit (.int 2)) (e2 gModI (e2 gDivI (e2 gAt (eVar 3) (eLit (.int 1))) (eLit (.int 5))) (e2 gMax2 (eLit (.int 1)) (e2 gSubI (eVar 2) (eLit (.int 1)))))))
    (sSeq (sAsg 6 (e2 gAt (eLst (aCons (eLst (aCons (eLit (.str [49])) aNil)) (aCons (eLst (aCons (eLit (.str [49, 48])) (aCons (eLit (.str [48, 49])) (aCons (eLit (.str [49, 49])) (aCons (eLit (.str [49, 48])) (aCons (eLit (.str [48, 49])) aNil)))))) (aCons (eLst (aCons (eLit (.str [49, 49, 48])) (aCons (eLit (.str [48, 49, 49])) (aCons (eLit (.str [49, 48, 49])) (aCons (eLit (.str [49, 48, 48])) (aCons (eLit (.str [48, 49, 48])) (aCons (eLit (.str [48, 48, 49])) aNil))))))) (aCons (eLst (aCons (eLit (.str [49, 49, 48, 48])) (aCons (eLit (.str [48, 48, 49, 49])) (aCons (eLit (.str [49, 48, 49, 48])) (aCons (eLit (.str [48, 49, 48, 49])) (aCons (eLit (.str [48, 49, 49, 49])) (aCons (eLit (.str [49, 48, 49, 49])) (aCons (eLit (.str [49, 49, 49, 48])) (aCons (eLit (.str [49, 48, 48, 48])) aNil))))))))) aNil))))) (e2 gSubI (eVar 4) (eLit (.int 1)))))
    (sSeq (sAsg 7 (eCall Φ__law_digits 2 [] (aCons (eCall Φ__law_cell 2 [] (aCons (eVar 0) (aCons (e2 gAdd (eVar 1) (eLit (.int 1))) aNil))) (aCons (e2 gAdd (e2 gMul (eLst (aCons (eLit (.int 6)) (aCons (eLit (.int 8)) aNil))) (eLit (.int 6))) (e2 gMul (eLst (aCons (eLit (.int 2)) aNil)) (eLit (.int 36)))) aNil))))
    (sSeq (sOwn 8 (eLst aNil))
    (sSeq (sFor (iR1 (eVar 5)) (hName 9) b__law_list_1)
    (sFz 8 (sRet (eLst (aCons (eVar 4) (aCons (eVar 8) (aCons (eLst aNil) aNil)))))))))))))
def Φ__law_list : Sm := bodyR g__law_list 13
def g__law_any_family : En → Out := (sSeq (sIf (t2 cEq (e2 gAt (eCall Φ__law_digits 2 [] (aCons (eCall Φ__law_cell 2 [] (aCons (eVar 0) (aCons (eVar 1) aNil))) (aCons (eLst (aCons (eLit (.int 5)) (aCons (eLit (.int 9)) aNil))) aNil))) (eLit (.int 0))) (eLit (.int 4))) (sRet (eCall Φ__law_list 3 [] (aCons (eVar 0) (aCons (eVar 1) (aCons (eLit (.int 6)) aNil))))) sNext)
    (sRet (eCall Φ__law_family 2 [] (aCons (eVar 0) (aCons (eVar 1) aNil)))))
def Φ__law_any_family : Sm := bodyR g__law_any_family 2
def g_PeriodicSet_is_infinite : En → Out := (sRet (e2 (gC cInA) (eLit (.str [49])) (e1 (gFld tab_cycle) (eVar 0))))
def Φ_PeriodicSet_is_infinite : Sm := bodyR g_PeriodicSet_is_infinite 1
def b_least_cycle_1 : En → Out := (sIf (tAnd' (t2 cEq (e2 gModI (e1 gLen (eVar 0)) (eVar 1)) (eLit (.int 0))) (t2 cEq (eVar 0) (e2 gMul (eSl (eVar 0) oNone (oSome (eVar 1))) (e2 gDivI (e1 gLen (eVar 0)) (eVar 1))))) (sRet (eSl (eVar 0) oNone (oSome (eVar 1)))) sNext)
def g_least_cycle : En → Out := (sSeq (sFor (iR2 (eLit (.int 1)) (e1 gLen (eVar 0))) (hName 1) b_least_cycle_1)
    (sRet (eVar 0)))
def Φ_least_cycle : Sm := bodyR g_least_cycle 2
def b_least_prefix_1 : En → Out := (sAug 2 (fun i j => i - j) (eLit (.int 1)))
def g_least_prefix : En → Out := (sSeq (sAsg 2 (e1 gLen (eVar 0)))
    (sSeq (whileF (tAnd' (t2 cGt (eVar 2) (eLit (.int 0))) (t2 cEq (e2 gAt (eVar 0) (e2 gSubI (eVar 2) (eLit (.int 1)))) (e2 gAt (eVar 1) (e2 gModI (e2 gSubI (eVar 2) (eLit (.int 1))) (e1 gLen (eVar 1)))))) b_least_prefix_1 100000)
    (sRet (eSl (eVar 0) oNone (oSome (eVar 2))))))
def Φ_least_prefix : Sm := bodyR g_least_prefix 3
def g_frozen : En → Out := (sSeq (sIf (tVal (eIsi tt_list (eVar 0))) (sRet (e1 gTuple (eVar 0))) sNext)
    (sRet (eVar 0)))
def Φ_frozen : Sm := bodyR g_frozen 1
def g_BadSet___init__ : En → R (List D) := (xCons (eCall Φ_frozen 1 [] (aCons (eVar 1) aNil)) (xCons (eCall Φ_frozen 1 [] (aCons (eVar 2) aNil)) xNil))
def Φ_BadSet___init__ : Sx := xinitR g_BadSet___init__ 3
def g_is_bits : En → Out := (sSeq (sIf (tNot' (tVal (eIsi tt_str (eVar 0)))) (sRet (eLit (.bl false))) sNext)
    (sRet (e1 gAll (eLc (iAll (eVar 0)) (hName 1) tTrue (e2 (gC cInA) (eVar 1) (eLit (.str [48, 49]))) [1]))))
def Φ_is_bits : Sm := bodyR g_is_bits 2
def g_PeriodicSet___init__ : En → Out := (sSeq (sIf (tOr' (tNot' (tVal (eCall Φ_is_bits 1 [] (aCons (eVar 1) aNil)))) (tOr' (tNot' (tVal (eCall Φ_is_bits 1 [] (aCons (eVar 2) aNil)))) (t2 cEq (eVar 2) (eLit (.str []))))) (sRaise 11 Φ_BadSet___init__ 2 2 (aCons (eVar 1) (aCons (eVar 2) aNil))) sNext)
    (sSeq (sFld 0 35 0 (eCall Φ_least_cycle 1 [] (aCons (eVar 2) aNil)))
    (sFld 0 35 1 (eCall Φ_least_prefix 2 [] (aCons (eVar 1) (aCons (e1 (gFld tab_cycle) (eVar 0)) aNil))))))
def Φ_PeriodicSet___init__ : Sf := initR 35 g_PeriodicSet___init__ 3
def g_check_fixed : En → Out := (sSeq (sIf (tOr' (tNot' (tVal (eIsi tt_PeriodicSet (eVar 1)))) (tNot' (tVal (eMeth 35 Φ_PeriodicSet_is_infinite 1 [] (eVar 1) aNil)))) (sRaise0 6) sNext)
    (sIf (tOr' (t2 cNe (e2 gModI (eVar 0) (e1 gLen (e1 (gFld tab_cycle) (eVar 1)))) (eLit (.int 0))) (t2 cGt (e1 gLen (e1 (gFld tab_prefix) (eVar 1))) (eLit (.int (12))))) (sRaise0 6) sNext))
def Φ_check_fixed : Sm := bodyR g_check_fixed 2
def b_checked_row_1 : En → Out := (sIf (tNot' (tVal (eCall Φ_is_bits 1 [] (aCons (eVar 2) aNil)))) (sRaise0 4) sNext)
def g_checked_row : En → Out := (sSeq (sIf (tOr' (tNot' (tVal (eIsi tt_list_tuple (eVar 0)))) (t2 cNe (e1 gLen (eVar 0)) (eLit (.int 3)))) (sRaise0 4) sNext)
    (sSeq (sFor (iAll (eVar 0)) (hName 2) b_checked_row_1)
    (sSeq (sIf (tOr' (t2 cNe (e1 gLen (e2 gAt (eVar 0) (eLit (.int 0)))) (eVar 1)) (tOr' (t2 cNe (e1 gLen (e2 gAt (eVar 0) (eLit (.int 1)))) (eLit (.int 1))) (tOr' (t2 cNe (e1 gLen (e2 gAt (eVar 0) (eLit (.int 2)))) (eVar 1)) (t2 cNinA (eLit (.str [49])) (e2 gAt (eVar 0) (eLit (.int 2))))))) (sRaise0 4) sNext)
    (sRet (eTup (aCons (e2 gAt (eVar 0) (eLit (.int 0))) (aCons (e2 gAt (eVar 0) (eLit (.int 1))) (aCons (e2 gAt (eVar 0) (eLit (.int 2))) aNil))))))))
def Φ_checked_row : Sm := bodyR g_checked_row 3
def g_Band___init__ : En → Out := (sSeq (sIf (tOr' (tNot' (tVal (eIsi tt_list_tuple (eVar 1)))) (tNot' (t3 cLe cLe (eLit (.int 1)) (e1 gLen (eVar 1)) (eLit (.int 4))))) (sRaise0 4) sNext)
    (sSeq (sFld 0 13 0 (e1 gLen (eVar 1)))
    (sFld 0 13 1 (e1 gTuple (eLc (iAll (eVar 1)) (hName 2) tTrue (eCall Φ_checked_row 2 [] (aCons (eVar 2) (aCons (e1 gLen (eVar 1)) aNil))) [2])))))
def Φ_Band___init__ : Sf := initR 13 g_Band___init__ 3
def b_check_parts_1 : En → Out := (sIf (tOr' (tNot' (tVal (eIsi tt_Band (eVar 4)))) (t2 cNe (e1 (gFld tab_period) (eVar 4)) (eVar 0))) (sRaise0 6) sNext)
def b_check_parts_2 : En → Out := (sDrop (eCall Φ_check_fixed 2 [] (aCons (eVar 0) (aCons (eVar 3) aNil))))
def g_check_parts : En → Out := (sSeq (sIf (tOr' (tNot' (tVal (eIsi tt_int (eVar 0)))) (tOr' (tVal (eIsi tt_bool (eVar 0))) (tNot' (t3 cLe cLe (eLit (.int 1)) (eVar 0) (eLit (.int (4))))))) (sRaise0 6) sNext)
    (sSeq (sIf (tOr' (tNot' (tVal (eIsi tt_list_tuple (eVar 1)))) (tNot' (tVal (eIsi tt_list_tuple (eVar 2))))) (sRaise0 6) sNext)
    (sSeq (sIf (tOr' (t2 cGt (e1 gLen (eVar 1)) (eLit (.int (6)))) (tOr' (t2 cGt (e1 gLen (eVar 2)) (eLit (.int (2)))) (t2 cEq (e2 gAdd (e1 gLen (eVar 1)) (e1 gLen (eVar 2))) (eLit (.int 0))))) (sRaise0 6) sNext)
    (sSeq (sFor (iAll (eVar 1)) (hName 3) b_check_parts_2)
    (sFor (iAll (eVar 2)) (hName 4) b_check_parts_1)))))
def Φ_check_parts : Sm := bodyR g_check_parts 5
def g_Family___init__ : En → Out := (sSeq (sDrop (eCall Φ_check_parts 3 [] (aCons (eVar 1) (aCons (eVar 2) (aCons (eVar 3) aNil)))))
    (sSeq (sFld 0 18 0 (eVar 1))
    (sSeq (sFld 0 18 1 (e1 gTuple (eVar 2)))
    (sFld 0 18 2 (e1 gTuple (eVar 3))))))
def Φ_Family___init__ : Sf := initR 18 g_Family___init__ 4
def g__law_build : En → Out := (sSeq (sAsg 1 (eLc (iAll (e2 gAt (eVar 0) (eLit (.int 1)))) (hName 2) tTrue (eNew 35 Φ_PeriodicSet___init__ 2 [] (aCons (e2 gAt (eVar 2) (eLit (.int 0))) (aCons (e2 gAt (eVar 2) (eLit (.int 1))) aNil))) [2]))
    (sRet (eNew 18 Φ_Family___init__ 3 [] (aCons (e2 gAt (eVar 0) (eLit (.int 0))) (aCons (eVar 1) (aCons (eLc (iAll (e2 gAt (eVar 0) (eLit (.int 2)))) (hName 4) tTrue (eNew 13 Φ_Band___init__ 1 [] (aCons (eLc (iAll (eVar 4)) (hName 3) tTrue (eTup (aCons (e2 gAt (eVar 3) (eLit (.int 0))) (aCons (e2 gAt (eVar 3) (eLit (.int 1))) (aCons (e2 gAt (eVar 3) (eLit (.int 2))) aNil)))) [3]) aNil)) [4]) aNil))))))
def Φ__law_build : Sm := bodyR g__law_build 5
def g__law_line : En → Out := (sSeq (sAsg 2 (e1 gLen (e2 gAt (eVar 0) (eLit (.int 1)))))
    (sSeq (sIf (t2 cLt (eVar 1) (eVar 2)) (sRet (eLst (aCons (e2 gAt (e2 gAt (e2 gAt (eVar 0) (eLit (.int 1))) (eVar 1)) (eLit (.int 0))) (aCons (e2 gAt (e2 gAt (e2 gAt (eVar 0) (eLit (.int 1))) (eVar 1)) (eLit (.int 1))) aNil)))) sNext)
    (sSeq (sAsg 3 (e2 gDivI (e2 gSubI (eVar 1) (eVar 2)) (e1 gLen (e2 gAt (eVar 0) (eLit (.int 2))))))
    (sSeq (sAsg 4 (e2 gAt (e2 gAt (e2 gAt (eVar 0) (eLit (.int 2))) (e2 gModI (e1 gInt (e2 gSubI (eVar 1) (eVar 2))) (e1 gLen (e2 gAt (eVar 0) (eLit (.int 2)))))) (e2 gModI (e1 gInt (eVar 3)) (e2 gAt (eVar 0) (eLit (.int 0))))))
    (sSeq (sAsg 5 (e2 gAdd (eJoin (eLit (.str [])) (eLc (iR1 (eVar 3)) (hName 6) tTrue (e2 gAt (e2 gAt (eVar 4) (eLit (.int 0))) (e2 gModI (e1 gInt (eVar 6)) (e2 gAt (eVar 0) (eLit (.int 0))))) [6])) (e2 gAt (eVar 4) (eLit (.int 1)))))
    (sRet (eLst (aCons (eVar 5) (aCons (e2 gAt (eVar 4) (eLit (.int 2))) aNil)))))))))
def Φ__law_line : Sm := bodyR g__law_line 7
def g__law_in : En → Out := (sSeq (sIf (t2 cLt (eVar 1) (e1 gLen (e2 gAt (eVar 0) (eLit (.int 0))))) (sRet (e2 (gC cEq) (e2 gAt (e2 gAt (eVar 0) (eLit (.int 0))) (eVar 1)) (eLit (.str [49])))) sNext)
    (sRet (e2 (gC cEq) (e2 gAt (e2 gAt (eVar 0) (eLit (.int 1))) (e2 gModI (e1 gInt (eVar 1)) (e1 gLen (e2 gAt (eVar 0) (eLit (.int 1)))))) (eLit (.str [49])))))
def Φ__law_in : Sm := bodyR g__law_in 2
def b__law_parting_1 : En → Out := (sSeq (sAsg 5 (eCall Φ__law_line 2 [] (aCons (eVar 0) (aCons (eVar 4) aNil))))
    (sSeq (sAsg 6 (eSl (eLc (iR1 (e2 gAdd (e2 gMax2 (e1 gLen (e2 gAt (eVar 2) (eLit (.int 0)))) (e1 gLen (e2 gAt (eVar 5) (eLit (.int 0))))) (eLit (.int 12)))) (hName 7) (t2 cNe (eCall Φ__law_in 2 [] (aCons (eVar 2) (aCons (eVar 7) aNil))) (eCall Φ__law_in 2 [] (aCons (eVar 5) (aCons (eVar 7) aNil)))) (eVar 7) [7]) oNone (oSome (eLit (.int 1)))))
    (sAsg 3 (e1 gMaxL (e2 gAdd (eLst (aCons (eVar 3) aNil)) (eVar 6))))))
def g__law_parting : En → Out := (sSeq (sAsg 2 (eCall Φ__law_line 2 [] (aCons (eVar 0) (aCons (eVar 1) aNil))))
    (sSeq (sAsg 3 (eNeg (eLit (.int 1))))
    (sSeq (sFor (iR1 (eVar 1)) (hName 4) b__law_parting_1)
    (sRet (eVar 3)))))
def Φ__law_parting : Sm := bodyR g__law_parting 8
def g__law_places : En → Out := (sSeq (sIf (t2 cEq (e1 gLen (e2 gAt (eVar 0) (eLit (.int 2)))) (eLit (.int 0))) (sRet (e1 gLen (e2 gAt (eVar 0) (eLit (.int 1))))) sNext)
    (sRet (eLit .non)))
def Φ__law_places : Sm := bodyR g__law_places 1
def g_NoLanguage___init__ : En → R (List D) := (xCons (eCall Φ_frozen 1 [] (aCons (eVar 1) aNil)) xNil)
def Φ_NoLanguage___init__ : Sx := xinitR g_NoLanguage___init__ 2
def g_Family_seat : En → Out := (sSeq (sIf (tOr' (tNot' (tVal (eIsi tt_int (eVar 1)))) (tOr' (tVal (eIsi tt_bool (eVar 1))) (t2 cLt (eVar 1) (eLit (.int 0))))) (sRaise 22 Φ_NoLanguage___init__ 1 1 (aCons (eVar 1) aNil)) sNext)
    (sSeq (sIf (tAnd' (t2 cEq (e1 gLen (e1 (gFld tab_bands) (eVar 0))) (eLit (.int 0))) (t2 cGe (eVar 1) (e1 gLen (e1 (gFld tab_fixed) (eVar 0))))) (sRaise 22 Φ_NoLanguage___init__ 1 1 (aCons (eVar 1) aNil)) sNext)
    (sSeq (sIf (t2 cLt (eVar 1) (e1 gLen (e1 (gFld tab_fixed) (eVar 0)))) (sRet (eTup (aCons (eLit (.str [102, 105, 120, 101, 100])) (aCons (eVar 1) aNil)))) sNext)
    (sSeq (sUnp (hSeq [2, 3]) (e2 gDivmod (e2 gSubI (eVar 1) (e1 gLen (e1 (gFld tab_fixed) (eVar 0)))) (e1 gLen (e1 (gFld tab_bands) (eVar 0)))))
    (sRet (eTup (aCons (eLit (.str [98, 97, 110, 100])) (aCons (eVar 3) (aCons (eVar 2) aNil)))))))))
def Φ_Family_seat : Sm := bodyR g_Family_seat 4
def g_unfolded : En → Out := (sSeq (sIf (t2 cLe (eVar 2) (e1 gLen (eVar 0))) (sRet (eSl (eVar 0) oNone (oSome (eVar 2)))) sNext)
    (sSeq (sAsg 3 (e2 gMul (eVar 1) (e2 gAdd (e2 gDivI (eVar 2) (e1 gLen (eVar 1))) (eLit (.int 1)))))
    (sRet (e2 gAdd (eVar 0) (eSl (eVar 3) (oSome (e1 gLen (eVar 0))) (oSome (eVar 2)))))))
def Φ_unfolded : Sm := bodyR g_unfolded 4
def g_Band_language : En → Out := (sSeq (sAsg 2 (e2 gAt (e1 (gFld tab_rows) (eVar 0)) (e2 gModI (eVar 1) (e1 (gFld tab_period) (eVar 0)))))
    (sRet (eNew 35 Φ_PeriodicSet___init__ 2 [] (aCons (e2 gAdd (eCall Φ_unfolded 3 [] (aCons (eLit (.str [])) (aCons (e2 gAt (eVar 2) (eLit (.int 0))) (aCons (eVar 1) aNil)))) (e2 gAt (eVar 2) (eLit (.int 1)))) (aCons (e2 gAt (eVar 2) (eLit (.int 2))) aNil)))))
def Φ_Band_language : Sm := bodyR g_Band_language 3
def g_Family_language : En → Out := (sSeq (sAsg 2 (eMeth 18 Φ_Family_seat 2 [] (eVar 0) (aCons (eVar 1) aNil)))
    (sSeq (sIf (t2 cEq (e2 gAt (eVar 2) (eLit (.int 0))) (eLit (.str [102, 105, 120, 101, 100]))) (sRet (e2 gAt (e1 (gFld tab_fixed) (eVar 0)) (eVar 1))) sNext)
    (sRet (eMeth 13 Φ_Band_language 2 [] (e2 gAt (e1 (gFld tab_bands) (eVar 0)) (e2 gAt (eVar 2) (eLit (.int 1)))) (aCons (e2 gAt (eVar 2) (eLit (.int 2))) aNil)))))
def Φ_Family_language : Sm := bodyR g_Family_language 3
def g_has_bit : En → Out := (sSeq (sIf (t2 cLt (eVar 2) (e1 gLen (eVar 0))) (sRet (e2 (gC cEq) (e2 gAt (eVar 0) (eVar 2)) (eLit (.str [49])))) sNext)
    (sRet (e2 (gC cEq) (e2 gAt (eVar 1) (e2 gModI (eVar 2) (e1 gLen (eVar 1)))) (eLit (.str [49])))))
def Φ_has_bit : Sm := bodyR g_has_bit 3
def b_PeriodicSet_after_1 : En → Out := (sIf (tVal (eCall Φ_has_bit 3 [] (aCons (e1 (gFld tab_prefix) (eVar 0)) (aCons (e1 (gFld tab_cycle) (eVar 0)) (aCons (eVar 3) aNil))))) (sRet (eVar 3)) sNext)
def g_PeriodicSet_after : En → Out := (sSeq (sAsg 2 (e2 gAdd (eVar 1) (eLit (.int 1))))
    (sSeq (sFor (iR2 (eVar 2) (e2 gAdd (e2 gMax2 (eVar 2) (e1 gLen (e1 (gFld tab_prefix) (eVar 0)))) (e1 gLen (e1 (gFld tab_cycle) (eVar 0))))) (hName 3) b_PeriodicSet_after_1)
    (sRet (eLit .non))))
def Φ_PeriodicSet_after : Sm := bodyR g_PeriodicSet_after 4
def g_PeriodicSet_least : En → Out := (sRet (eMeth 35 Φ_PeriodicSet_after 2 [] (eVar 0) (aCons (eNeg (eLit (.int 1))) aNil)))
def Φ_PeriodicSet_least : Sm := bodyR g_PeriodicSet_least 1
def g_merged : En → Out := (sRet (eJoin (eLit (.str [])) (eLc (iZip (eVar 0) (eVar 1)) (hSeq [3, 4]) tTrue (e2 gAt (eVar 2) (e2 gAdd (e2 gMul (eLit (.int 2)) (e1 gIntA (eVar 3))) (e1 gIntA (eVar 4)))) [3, 4])))
def Φ_merged : Sm := bodyR g_merged 5
def g_combined : En → Out := (sSeq (sAsg 3 (e2 gMax2 (e1 gLen (e2 gAt (eVar 0) (eLit (.int 0)))) (e1 gLen (e2 gAt (eVar 1) (eLit (.int 0))))))
    (sSeq (sAsg 4 (e2 gLcm (e1 gLen (e2 gAt (eVar 0) (eLit (.int 1)))) (e1 gLen (e2 gAt (eVar 1) (eLit (.int 1))))))
    (sSeq (sAsg 5 (eCall Φ_merged 3 [] (aCons (eCall Φ_unfolded 3 [] (aCons (e2 gAt (eVar 0) (eLit (.int 0))) (aCons (e2 gAt (eVar 0) (eLit (.int 1))) (aCons (eVar 3) aNil)))) (aCons (eCall Φ_unfolded 3 [] (aCons (e2 gAt (eVar 1) (eLit (.int 0))) (aCons (e2 gAt (eVar 1) (eLit (.int 1))) (aCons (eVar 3) aNil)))) (aCons (eVar 2) aNil)))))
    (sSeq (sAsg 6 (e2 gMul (e2 gAt (eVar 0) (eLit (.int 1))) (e2 gDivI (eVar 4) (e1 gLen (e2 gAt (eVar 0) (eLit (.int 1)))))))
    (sSeq (sAsg 7 (e2 gMul (e2 gAt (eVar 1) (eLit (.int 1))) (e2 gDivI (eVar 4) (e1 gLen (e2 gAt (eVar 1) (eLit (.int 1)))))))
    (sRet (eTup (aCons (eVar 5) (aCons (eCall Φ_merged 3 [] (aCons (eVar 6) (aCons (eVar 7) (aCons (eVar 2) aNil)))) aNil)))))))))
def Φ_combined : Sm := bodyR g_combined 8
def g_PeriodicSet___xor__ : En → Out := (sSeq (sAsg 2 (eCall Φ_combined 3 [] (aCons (eTup (aCons (e1 (gFld tab_prefix) (eVar 0)) (aCons (e1 (gFld tab_cycle) (eVar 0)) aNil))) (aCons (eTup (aCons (e1 (gFld tab_prefix) (eVar 1)) (aCons (e1 (gFld tab_cycle) (eVar 1)) aNil))) (aCons (eLit (.str [48, 49, 49, 48])) aNil)))))
    (sRet (eNew 35 Φ_PeriodicSet___init__ 2 [] (aCons (e2 gAt (eVar 2) (eLit (.int 0))) (aCons (e2 gAt (eVar 2) (eLit (.int 1))) aNil)))))
def Φ_PeriodicSet___xor__ : Sm := bodyR g_PeriodicSet___xor__ 3
def b_parting_1 : En → Out := (sSeq (sAsg 5 (eMeth 35 Φ_PeriodicSet_least 1 [] (e2 (gOwn 35 Φ_PeriodicSet___xor__) (eVar 2) (eMeth 18 Φ_Family_language 2 [] (eVar 0) (aCons (eVar 4) aNil))) aNil))
    (sIf (t2 cNotN (eVar 5) (eLit .non)) (sAsg 3 (e2 gMax2 (eVar 3) (eVar 5))) sNext))
def g_parting : En → Out := (sSeq (sAsg 2 (eMeth 18 Φ_Family_language 2 [] (eVar 0) (aCons (eVar 1) aNil)))
    (sSeq (sAsg 3 (eNeg (eLit (.int 1))))
    (sSeq (sFor (iR1 (eVar 1)) (hName 4) b_parting_1)
    (sRet (eVar 3)))))
def Φ_parting : Sm := bodyR g_parting 6
def g_enough_answers : En → Out := (sRet (e2 gAdd (e2 gMul (e2 gAdd (eCall Φ_parting 2 [] (aCons (eVar 0) (aCons (eVar 1) aNil))) (eLit (.int 1))) (e2 gAdd (eVar 2) (eLit (.int 1)))) (eVar 2)))
def Φ_enough_answers : Sm := bodyR g_enough_answers 3
def b__law_least_unsettled_1 : En → Out := (sSeq (sAsg 3 (e1 gLen (eLc (iAll (eVar 0)) (hName 4) (tAnd' (t2 cEq (e2 gAt (eVar 4) (eLit (.int 0))) (eVar 2)) (tVal (e2 gAt (eVar 4) (eLit (.int 1))))) (eLit (.int 1)) [4])))
    (sSeq (sAsg 5 (e1 gLen (eLc (iAll (eVar 0)) (hName 4) (tAnd' (t2 cEq (e2 gAt (eVar 4) (eLit (.int 0))) (eVar 2)) (tNot' (tVal (e2 gAt (eVar 4) (eLit (.int 1)))))) (eLit (.int 1)) [4])))
    (sIf (tAnd' (t2 cLe (eVar 3) (eVar 1)) (t2 cLe (eVar 5) (eVar 1))) (sRet (eVar 2)) sNext)))
def g__law_least_unsettled : En → Out := (sSeq (sFor (iR1 (eLit (.int 60))) (hName 2) b__law_least_unsettled_1)
    (sRet (eLit (.int 60))))
def Φ__law_least_unsettled : Sm := bodyR g__law_least_unsettled 6
def g__law_whole : En → Out := (sRet (vAnd (eIsi tt_int (eVar 0)) (vNot (eIsi tt_bool (eVar 0)))))
def Φ__law_whole : Sm := bodyR g__law_whole 1
def g_Family_place_count : En → Out := (sSeq (sIf (t2 cGt (e1 gLen (e1 (gFld tab_bands) (eVar 0))) (eLit (.int 0))) (sRet (eLit .non)) sNext)
    (sRet (e1 gLen (e1 (gFld tab_fixed) (eVar 0)))))
def Φ_Family_place_count : Sm := bodyR g_Family_place_count 1
def b_tallies_1 : En → Out := (sSeq (sUnp (hSeq [4, 5]) (eGet2 (eVar 1) (eVar 2) (eTup (aCons (eLit (.int 0)) (aCons (eLit (.int 0)) aNil)))))
    (sIf (tVal (eVar 3)) (sSetA 1 (eVar 2) (eTup (aCons (eVar 4) (aCons (e2 gAdd (eVar 5) (eLit (.int 1))) aNil)))) (sSetA 1 (eVar 2) (eTup (aCons (e2 gAdd (eVar 4) (eLit (.int 1))) (aCons (eVar 5) aNil))))))
def g_tallies : En → Out := (sSeq (sOwn 1 eDnew)
    (sSeq (sFor (iAll (eVar 0)) (hSeq [2, 3]) b_tallies_1)
    (sRet (eVar 1))))
def Φ_tallies : Sm := bodyR g_tallies 6
def g_BadAnswers___init__ : En → R (List D) := (xCons (eCall Φ_frozen 1 [] (aCons (eVar 1) aNil)) xNil)
def Φ_BadAnswers___init__ : Sx := xinitR g_BadAnswers___init__ 2
def b_settled_1 : En → Out := (sSeq (sUnp (hSeq [5, 6]) (e2 gAt (eVar 2) (eVar 4)))
    (sSeq (sIf (tAnd' (t2 cGt (eVar 5) (eVar 1)) (t2 cGt (eVar 6) (eVar 1))) (sRaise 3 Φ_BadAnswers___init__ 1 1 (aCons (eVar 4) aNil)) sNext)
    (sIf (t2 cGt (eVar 6) (eVar 1)) (sApp 3 (eTup (aCons (eVar 4) (aCons (eLit (.bl true)) aNil)))) (sIf (t2 cGt (eVar 5) (eVar 1)) (sApp 3 (eTup (aCons (eVar 4) (aCons (eLit (.bl false)) aNil)))) sNext))))
def g_settled : En → Out := (sSeq (sAsg 2 (eCall Φ_tallies 1 [] (aCons (eVar 0) aNil)))
    (sSeq (sOwn 3 (eLst aNil))
    (sSeq (sFor (iAll (e1 gSorted (eVar 2))) (hName 4) b_settled_1)
    (sRet (e1 gTuple (eVar 3))))))
def Φ_settled : Sm := bodyR g_settled 7
def g_PeriodicSet___contains__ : En → Out := (sRet (eCall Φ_has_bit 3 [] (aCons (e1 (gFld tab_prefix) (eVar 0)) (aCons (e1 (gFld tab_cycle) (eVar 0)) (aCons (eVar 1) aNil)))))
def Φ_PeriodicSet___contains__ : Sm := bodyR g_PeriodicSet___contains__ 2
def g_agrees : En → Out := (sRet (e1 gAll (eLc (iAll (eVar 1)) (hSeq [2, 3]) tTrue (e2 (gC cEq) (e2 (gC (cInO 35 Φ_PeriodicSet___contains__)) (eVar 2) (eVar 0)) (eVar 3)) [2, 3])))
def Φ_agrees : Sm := bodyR g_agrees 4
def b_asked_place_1 : En → Out := (sIf (tVal (eCall Φ_agrees 2 [] (aCons (eMeth 18 Φ_Family_language 2 [] (eVar 0) (aCons (eVar 8) aNil)) (aCons (eVar 3) aNil)))) (sRet (eVar 8)) sNext)
def g_asked_place : En → Out := (sSeq (sAsg 3 (eCallK Φ_settled 1 1 (aCons (eVar 1) aNil) (aCons (eVar 2) aNil)))
    (sSeq (sAsg 4 (eMaxDf (eLc (iAll (eVar 3)) (hSeq [5, 6]) tTrue (eVar 5) [5, 6]) (aCons (eNeg (eLit (.int 1))) aNil)))
    (sSeq (sAsg 7 (eMeth 18 Φ_Family_place_count 1 [] (eVar 0) aNil))
    (sSeq (sIf (t2 cIsN (eVar 7) (eLit .non)) (sAsg 7 (e2 gAdd (e1 gLen (e1 (gFld tab_fixed) (eVar 0))) (e2 gMul (e2 gAdd (e2 gAdd (eVar 4) (e1 (gFld tab_period) (eVar 0))) (eLit (.int 1))) (e1 gLen (e1 (gFld tab_bands) (eVar 0)))))) sNext)
    (sSeq (sFor (iR1 (eVar 7)) (hName 8) b_asked_place_1)
    (sRaise0 26))))))
def Φ_asked_place : Sm := bodyR g_asked_place 9
def b__law_told_set_1 : En → Out := (sIf (t2 cNe (eCall Φ__law_in 2 [] (aCons (eLst (aCons (e1 (gFld tab_prefix) (eVar 0)) (aCons (e1 (gFld tab_cycle) (eVar 0)) aNil))) (aCons (eVar 2) aNil))) (eCall Φ__law_in 2 [] (aCons (eVar 1) (aCons (eVar 2) aNil)))) (sRet (eLit (.bl false))) sNext)
def g__law_told_set : En → Out := (sSeq (sIf (tOr' (tNot' (tVal (eIsi tt_PeriodicSet (eVar 0)))) (tOr' (tNot' (tVal (eIsi tt_str (e1 (gFld tab_prefix) (eVar 0))))) (tNot' (tVal (eIsi tt_str (e1 (gFld tab_cycle) (eVar 0))))))) (sRet (eLit (.bl false))) sNext)
    (sSeq (sIf (tOr' (t2 cEq (e1 gLen (e1 (gFld tab_cycle) (eVar 0))) (eLit (.int 0))) (tOr' (t2 cGt (e1 gLen (e1 (gFld tab_cycle) (eVar 0))) (eLit (.int 600))) (t2 cGt (e1 gLen (e1 (gFld tab_prefix) (eVar 0))) (eLit (.int 6000))))) (sRet (eLit (.bl false))) sNext)
    (sSeq (sFor (iR1 (e2 gAdd (e2 gMax2 (e1 gLen (e1 (gFld tab_prefix) (eVar 0))) (e1 gLen (e2 gAt (eVar 1) (eLit (.int 0))))) (e2 gMul (eLit (.int 12)) (e1 gLen (e1 (gFld tab_cycle) (eVar 0)))))) (hName 2) b__law_told_set_1)
    (sRet (eLit (.bl true))))))
def Φ__law_told_set : Sm := bodyR g__law_told_set 3
def b__law_part_of_1 : En → Out := (sIf (tAnd' (tVal (eCall Φ__law_in 2 [] (aCons (eVar 0) (aCons (eVar 2) aNil)))) (tNot' (tVal (eCall Φ__law_in 2 [] (aCons (eVar 1) (aCons (eVar 2) aNil)))))) (sRet (eLit (.bl false))) sNext)
def g__law_part_of : En → Out := (sSeq (sFor (iR1 (e2 gAdd (e2 gMax2 (e1 gLen (e2 gAt (eVar 0) (eLit (.int 0)))) (e1 gLen (e2 gAt (eVar 1) (eLit (.int 0))))) (eLit (.int 12)))) (hName 2) b__law_part_of_1)
    (sRet (eLit (.bl true))))
def Φ__law_part_of : Sm := bodyR g__law_part_of 3
def g_asked : En → Out := (sRet (eMeth 18 Φ_Family_language 2 [] (eVar 0) (aCons (eCallK Φ_asked_place 2 1 (aCons (eVar 0) (aCons (eVar 1) aNil)) (aCons (eVar 2) aNil)) aNil)))
def Φ_asked : Sm := bodyR g_asked 3
def b_law_1 : En → Out := (sSeq (sIf (tOr' (t2 cGe (eVar 13) (eVar 8)) (t2 cEq (e2 gModI (eVar 13) (eLit (.int 3))) (eLit (.int 0)))) (sSeq (sAsg 14 (eCallK Φ_asked_place 2 1 (aCons (eVar 2) (aCons (e1 gTuple (eVar 11)) aNil)) (aCons (eVar 5) aNil)))
    (sSeq (sIf (tOr' (tNot' (tVal (eCall Φ__law_whole 1 [] (aCons (eVar 14) aNil)))) (tOr' (t2 cLt (eVar 14) (eLit (.int 0))) (t2 cGt (eVar 14) (eVar 4)))) (sRet (eLit (.bl false))) sNext)
    (sIf (t2 cGe (eVar 13) (eVar 8)) (sSeq (sAsg 15 (eCall Φ__law_line 2 [] (aCons (eVar 1) (aCons (eVar 14) aNil))))
    (sSeq (sIf (tOr' (tNot' (tVal (eCall Φ__law_part_of 2 [] (aCons (eVar 15) (aCons (eVar 6) aNil))))) (tNot' (tVal (eCall Φ__law_part_of 2 [] (aCons (eVar 6) (aCons (eVar 15) aNil)))))) (sRet (eLit (.bl false))) sNext)
    (sIf (tNot' (tVal (eCall Φ__law_told_set 2 [] (aCons (eCallK Φ_asked 2 1 (aCons (eVar 2) (aCons (e1 gList (eVar 11)) aNil)) (aCons (eVar 5) aNil)) (aCons (eVar 6) aNil))))) (sRet (eLit (.bl false))) sNext))) sNext))) sNext)
    (sSeq (sAsg 16 (eCall Φ__law_least_unsettled 2 [] (aCons (eVar 11) (aCons (eVar 5) aNil))))
    (sSeq (sAsg 17 (eCall Φ__law_in 2 [] (aCons (eVar 6) (aCons (eVar 16) aNil))))
    (sSeq (sIf (tAnd' (t2 cInA (eVar 13) (eVar 10)) (t2 cLt (eVar 12) (eVar 5))) (sSeq (sAsg 17 (vNot (eVar 17)))
    (sAsg 12 (e2 gAdd (eVar 12) (eLit (.int 1))))) sNext)
    (sApp 11 (eTup (aCons (eVar 16) (aCons (eVar 17) aNil))))))))
def g_law : En → Out := (sSeq (sAsg 1 (eCall Φ__law_any_family 2 [] (aCons (eVar 0) (aCons (eLit (.int 0)) aNil))))
    (sSeq (sAsg 2 (eCall Φ__law_build 1 [] (aCons (eVar 1) aNil)))
    (sSeq (sAsg 3 (eCall Φ__law_digits 2 [] (aCons (eCall Φ__law_cell 2 [] (aCons (eVar 0) (aCons (eLit (.int 4)) aNil))) (aCons (eLst (aCons (eLit (.int 13)) (aCons (eLit (.int 4)) (aCons (eLit (.int 48)) aNil)))) aNil))))
    (sSeq (sAsg 4 (e2 gAt (eVar 3) (eLit (.int 0))))
    (sSeq (sIf (t2 cNotN (eCall Φ__law_places 1 [] (aCons (eVar 1) aNil)) (eLit .non)) (sAsg 4 (e2 gModI (e1 gInt (eVar 4)) (e1 gLen (e2 gAt (eVar 1) (eLit (.int 1)))))) sNext)
    (sSeq (sAsg 5 (e2 gAt (eVar 3) (eLit (.int 1))))
    (sSeq (sAsg 6 (eCall Φ__law_line 2 [] (aCons (eVar 1) (aCons (eVar 4) aNil))))
    (sSeq (sAsg 7 (eCall Φ__law_parting 2 [] (aCons (eVar 1) (aCons (eVar 4) aNil))))
    (sSeq (sAsg 8 (e2 gAdd (e2 gMul (e2 gAdd (eVar 7) (eLit (.int 1))) (e2 gAdd (eVar 5) (eLit (.int 1)))) (eVar 5)))
    (sSeq (sIf (tOr' (t2 cNe (eCall Φ_parting 2 [] (aCons (eVar 2) (aCons (eVar 4) aNil))) (eVar 7)) (tOr' (t2 cNe (eCallK Φ_enough_answers 2 1 (aCons (eVar 2) (aCons (eVar 4) aNil)) (aCons (eVar 5) aNil)) (eVar 8)) (tNot' (tVal (eCall Φ__law_whole 1 [] (aCons (eCall Φ_parting 2 [] (aCons (eVar 2) (aCons (eVar 4) aNil))) aNil)))))) (sRet (eLit (.bl false))) sNext)
    (sSeq (sIf (t2 cNe (eCall Φ_enough_answers 3 [.int (0)] (aCons (eVar 2) (aCons (eVar 4) aNil))) (e2 gAdd (eVar 7) (eLit (.int 1)))) (sRet (eLit (.bl false))) sNext)
    (sSeq (sAsg 9 (e2 gAdd (eLit (.int 13)) (e2 gAt (eVar 3) (eLit (.int 2)))))
    (sSeq (sIf (tAnd' (t2 cIsN (eCall Φ__law_places 1 [] (aCons (eVar 1) aNil)) (eLit .non)) (t2 cNe (eCall Φ_parting 2 [] (aCons (eVar 2) (aCons (eVar 9) aNil))) (eCall Φ__law_parting 2 [] (aCons (eVar 1) (aCons (eVar 9) aNil))))) (sRet (eLit (.bl false))) sNext)
    (sSeq (sAsg 10 (eSl (eCall Φ__law_digits 2 [] (aCons (eCall Φ__law_cell 2 [] (aCons (eVar 0) (aCons (eLit (.int 5)) aNil))) (aCons (eLst (aCons (eLit (.int 30)) (aCons (eLit (.int 30)) (aCons (eLit (.int 30)) aNil)))) aNil))) oNone (oSome (eVar 5))))
    (sSeq (sOwn 11 (eLst aNil))
    (sSeq (sAsg 12 (eLit (.int 0)))
    (sSeq (sFor (iR1 (e2 gAdd (eVar 8) (eLit (.int 4)))) (hName 13) b_law_1)
    (sRet (eLit (.bl true))))))))))))))))))))
def Φ_law : Sm := bodyR g_law 18
end Pf
set_option maxHeartbeats 4000000
namespace Pf
open PySem L2 Ev
theorem seed_loop (ns : List Int) (s0 : Int) (h0 : 0 ≤ s0 ∧ s0 < 1000003) (a b : SV) (y0 : SV) : ∃ (s : Int) (y : SV), loopF (hName 3) false b__law_cell_1 (ns.map .int) [a, b, .sh (.int s0) true, y0]
    = .next [a, b, .sh (.int s) true, y] ∧ 0 ≤ s ∧ s < 1000003 := by
  obtain ⟨ρ, e, s, y, rfl, h1, h2⟩ := loop_pred (b := false) (h := hName 3) (g := b__law_cell_1) (fun _ ρ => ∃ (s : Int) (y : SV), ρ = [a, b, .sh (.int s) true, y] ∧ 0 ≤ s ∧ s < 1000003) (ns.map .int) 0 [a, b, .sh (.int s0) true, y0] ⟨s0, y0, rfl, h0⟩ (fun i d ρ hd ⟨s, y, hρ, h1, h2⟩ => by
      subst hρ
      obtain ⟨n, hn, rfl⟩ : ∃ n : Int, ns[i]? = some n ∧ D.int n = d := by simpa [List.getElem?_map, Option.map_eq_some_iff] using hd
      refine ⟨[a, b, .sh (.int s) true, .sh (.int n) true], [a, b, .sh (.int ((s * 31 + n % 1000003) % 1000003)) true, .sh (.int n) true], by simp, .inl ?_, _, _, rfl, by omega, by omega⟩
      have hm : s.natAbs < 18446744073709551616 ∨ (31 : Int).natAbs < 18446744073709551616 := by right; decide
      simp [b__law_cell_1, gMul_i hm, gMod_i])
  exact ⟨s, y, e, h1, h2⟩
theorem cell_ok (ns : List Int) (k : Int) (h0 : 0 ≤ k) (h1 : k ≤ 1000) : ∃ c : Int, Φ__law_cell [.lsk (ns.map .int), .int k] = .ok (.int c, true) := by
  suffices h : ∃ c : Int, g__law_cell [.sh (.lsk (ns.map .int)) false, .sh (.int k) true, .un, .un] = .ret ⟨.int c, .pl, true⟩ by
    obtain ⟨c, h⟩ := h
    exact ⟨c, bodyR_ret (g := g__law_cell) (n := 4) (ds := [.lsk (ns.map .int), .int k]) (a := ⟨.int c, .pl, true⟩) h⟩
  unfold g__law_cell
  have e1 : gLen ⟨.lsk (ns.map .int), .pl, false⟩ = .ok ⟨.int ns.length, .pl, true⟩ := by simp [gLen]
  by_cases hk : k < ns.length
  · refine ⟨ns[k.toNat]'(by omega), ?_⟩
    have e2 : gAt ⟨.lsk (ns.map .int), .pl, false⟩ ⟨.int k, .pl, true⟩ = .ok ⟨.int (ns[k.toNat]'(by omega)), .pl, true⟩ := by
      rw [gAt_k (atI_nat h0 (by rw [List.getElem?_map, List.getElem?_eq_getElem (by omega)]; rfl))]
      rfl
    simp [e1, e2, hk]
  · obtain ⟨s, y, es, h2, h3⟩ := seed_loop ns 17 (by omega) (.sh (.lsk (ns.map .int)) false) (.sh (.int k) true) .un
    refine ⟨(s + 7) * (k + 3) * 69621 % 2147483647, ?_⟩
    have hm : ((s + 7) : Int).natAbs < 18446744073709551616 ∨ (k + 3 : Int).natAbs < 18446744073709551616 := by left; omega
    have hm2 : ((s + 7) * (k + 3) : Int).natAbs < 18446744073709551616 ∨ (69621 : Int).natAbs < 18446744073709551616 := by right; decide
    simp [e1, hk, iAll, isBo, es, gMul_i hm, gMul_i hm2, gMod_i]
end Pf
set_option maxHeartbeats 4000000
namespace Pf
open PySem L2 Ev
/-- digits below their sizes -/
def Dg (ds sizes : List Int) : Prop := ds.length = sizes.length ∧ ∀ (i : Nat) (d s : Int), ds[i]? = some d → sizes[i]? = some s → 0 ≤ d ∧ d < s
/-- .. the first k of them -/
def DgK (ds sizes : List Int) (k : Nat) : Prop := ds.length = k ∧ ∀ (i : Nat) (d s : Int), ds[i]? = some d → sizes[i]? = some s → 0 ≤ d ∧ d < s
theorem DgK.snoc {ds sizes : List Int} {k : Nat} (h : DgK ds sizes k) {d s : Int} (hs : sizes[k]? = some s) (h0 : 0 ≤ d) (h1 : d < s) : DgK (ds ++ [d]) sizes (k + 1) := by
  refine ⟨by simp [h.1], fun i e t he ht => ?_⟩
  by_cases hi : i < ds.length
  · rw [List.getElem?_append_left hi] at he
    exact h.2 i e t he ht
  · rw [List.getElem?_append_right (by omega)] at he
    have hi2 : i = ds.length := by
      have := (List.getElem?_eq_some_iff.mp he).1
      simp at this
      omega
    subst hi2
    simp at he
    subst he
    rw [h.1] at ht
    rw [hs] at ht
    cases ht
    exact ⟨h0, h1⟩
theorem dig1 (sizes : List Int) (hs : ∀ s ∈ sizes, 0 < s ∧ s < 1073741824) (hl : sizes.length ≤ 10000) (a b y0 u v w : SV) (r0 : Int) (f : Bool) : ∃ (ds : List Int) (r : Int) (y : SV),
    loopF (hName 4) f b__law_digits_2 (sizes.map .int) [a, b, .ow (.lst []) true, .sh (.int r0) true, y0, u, v, w] = .next [a, b, .ow (.lst (ds.map .int)) true, .sh (.int r) true, y, u, v, w] ∧ Dg ds sizes := by
  obtain ⟨ρ, e, ds, r, y, rfl, h1⟩ := loop_pred (b := f) (h := hName 4) (g := b__law_digits_2) (fun k ρ => ∃ (ds : List Int) (r : Int) (y : SV), ρ = [a, b, .ow (.lst (ds.map .int)) true, .sh (.int r) true, y, u, v, w] ∧ DgK ds sizes k) (sizes.map .int) 0
    [a, b, .ow (.lst []) true, .sh (.int r0) true, y0, u, v, w] ⟨[], r0, y0, rfl, rfl, fun i d s h => by simp at h⟩ (fun i d ρ hd ⟨ds, r, y, hρ, h1⟩ => by
      subst hρ
      obtain ⟨n, hn, rfl⟩ : ∃ n : Int, sizes[i]? = some n ∧ D.int n = d := by simpa [List.getElem?_map, Option.map_eq_some_iff] using hd
      rw [Nat.zero_add] at h1 ⊢
      have hb := hs n (List.mem_of_getElem? hn)
      have hi := (List.getElem?_eq_some_iff.mp hn).1
      have hl2 : ds.length < 1000000 := by have := h1.1; omega
      refine ⟨[a, b, .ow (.lst (ds.map .int)) true, .sh (.int r) true, .sh (.int n) true, u, v, w], [a, b, .ow (.lst ((ds ++ [r % n]).map .int)) true, .sh (.int (r / n)) true, .sh (.int n) true, u, v, w], by simp, .inl ?_, _, _, _, rfl, h1.snoc hn (Int.emod_nonneg _ (by omega)) (Int.emod_lt_of_pos _ hb.1)⟩
      simp [b__law_digits_2, sApp, gMod_i hb.1, gDiv_i hb, hl2])
  exact ⟨ds, r, y, e, by simpa using h1.1, h1.2⟩
theorem dig2 (sizes : List Int) (hs : ∀ s ∈ sizes, 0 < s ∧ s < 1073741824) (hl : sizes.length ≤ 10000) (a y0 u v0 w0 : SV) (r : SV) (s0 : Int) (h0 : 0 ≤ s0 ∧ s0 < 2147483647) (f g : Bool) : ∃ (ds : List Int) (s : Int) (v w : SV),
    loopF (hName 6) f b__law_digits_1 (rng 0 sizes.length) [a, .sh (.lst (sizes.map .int)) g, .ow (.lst []) true, r, u, .sh (.int s0) true, v0, w0] = .next [a, .sh (.lst (sizes.map .int)) g, .ow (.lst (ds.map .int)) true, r, u, .sh (.int s) true, v, w] ∧ Dg ds sizes := by
  obtain ⟨ρ, e, ds, s, v, w, rfl, h1, _⟩ := loop_pred (b := f) (h := hName 6) (g := b__law_digits_1) (fun k ρ => ∃ (ds : List Int) (s : Int) (v w : SV), ρ = [a, .sh (.lst (sizes.map .int)) g, .ow (.lst (ds.map .int)) true, r, u, .sh (.int s) true, v, w] ∧ DgK ds sizes k ∧ 0 ≤ s ∧ s < 2147483647) (rng 0 sizes.length) 0
    [a, .sh (.lst (sizes.map .int)) g, .ow (.lst []) true, r, u, .sh (.int s0) true, v0, w0] ⟨[], s0, v0, w0, rfl, ⟨rfl, fun i d s h => by simp at h⟩, h0⟩ (fun i d ρ hd ⟨ds, s, v, w, hρ, h1, h2, h3⟩ => by
      subst hρ
      obtain ⟨hi, rfl⟩ := rng_get hd
      rw [Nat.zero_add] at h1 ⊢
      obtain ⟨n, hn⟩ : ∃ n, sizes[i]? = some n := ⟨_, List.getElem?_eq_getElem hi⟩
      have hb := hs n (List.mem_of_getElem? hn)
      have hl2 : ds.length < 1000000 := by have := h1.1; omega
      have e1 : gAt ⟨.lst (sizes.map .int), .pl, g⟩ ⟨.int (i : Int), .pl, true⟩ = .ok ⟨.int n, .pl, true⟩ := by
        rw [gAt_l (d := .int n) (atI_nat (by omega) (by simp [hn]))]
        simp
      generalize hS : (s * 48271 + 974711 * (i : Int) + 12345) % 2147483647 = S
      have hS0 : 0 ≤ S ∧ S < 2147483647 := by omega
      have m1 : s.natAbs < 18446744073709551616 ∨ (48271 : Int).natAbs < 18446744073709551616 := by right; decide
      have m2 : (974711 : Int).natAbs < 18446744073709551616 ∨ (i : Int).natAbs < 18446744073709551616 := by left; decide
      have m3 : S.natAbs < 18446744073709551616 ∨ (S / 65537 + 3).natAbs < 18446744073709551616 := by left; omega
      refine ⟨[a, .sh (.lst (sizes.map .int)) g, .ow (.lst (ds.map .int)) true, r, u, .sh (.int s) true, .sh (.int i) true, w], [a, .sh (.lst (sizes.map .int)) g, .ow (.lst ((ds ++ [S * (S / 65537 + 3) % 2147483629 / 19 % n]).map .int)) true, r, u, .sh (.int S) true, .sh (.int i) true, .sh (.int (S * (S / 65537 + 3) % 2147483629)) true], by simp, .inl ?_, _, _, _, _, rfl, h1.snoc hn (Int.emod_nonneg _ (by omega)) (Int.emod_lt_of_pos _ hb.1), hS0⟩
      simp [b__law_digits_1, sApp, gMul_i m1, gMul_i m2, gMul_i m3, gMod_i, gDiv_i, hS, e1, hb.1, hl2])
  exact ⟨ds, s, v, w, e, by simpa using h1.1, h1.2⟩
theorem digits_ok (sizes : List Int) (hs : ∀ s ∈ sizes, 0 < s ∧ s < 1073741824) (hl : sizes.length ≤ 10000) (cell : Int) : ∃ ds : List Int, Φ__law_digits [.int cell, .lst (sizes.map .int)] = .ok (.lst (ds.map .int), true) ∧ Dg ds sizes := by
  suffices h : ∃ ds : List Int, g__law_digits [.sh (.int cell) true, .sh (.lst (sizes.map .int)) false, .un, .un, .un, .un, .un, .un] = .ret ⟨.lst (ds.map .int), .bo, true⟩ ∧ Dg ds sizes by
    obtain ⟨ds, h, h2⟩ := h
    exact ⟨ds, bodyR_ret (g := g__law_digits) (n := 8) (ds := [.int cell, .lst (sizes.map .int)]) (a := ⟨.lst (ds.map .int), .bo, true⟩) h, h2⟩
  have p10 : gPowI ⟨.int 10, .pl, true⟩ ⟨.int 18, .pl, true⟩ = .ok ⟨.int 1000000000000000000, .pl, true⟩ := by
    rw [gPow_i (by decide)]
    rfl
  by_cases hc : 1000000000000000000 ≤ cell
  · obtain ⟨ds, r, y, e, h⟩ := dig1 sizes hs hl (.sh (.int cell) true) (.sh (.lst (sizes.map .int)) false) .un .un .un .un (cell - 1000000000000000000) false
    refine ⟨ds, ?_, h⟩
    unfold g__law_digits
    simp [p10, hc, iAll, isBo, e]
  · have hn : gLen ⟨.lst (sizes.map .int), .pl, false⟩ = .ok ⟨.int sizes.length, .pl, true⟩ := by simp [gLen]
    obtain ⟨ds, s, v, w, e, h⟩ := dig2 sizes hs hl (.sh (.int cell) true) .un .un .un .un (.sh (.int cell) true) (cell % 2147483629) (by omega) true false
    refine ⟨ds, ?_, h⟩
    have hr : (-1000000000 : Int) ≤ sizes.length ∧ (sizes.length : Int) ≤ 1000000000 := by omega
    unfold g__law_digits
    simp [p10, hc, iR1, int?, hn, gMod_i, hr, e]
end Pf
set_option maxHeartbeats 4000000
namespace Pf
open PySem L2 Ev
def Bit (x : Int) : Prop := x = 0 ∨ x = 1
/-- a band's drawn digits -/
structure RowOk (p : Nat) (R : List Int) : Prop where
  k : ∃ k : Int, R[0]? = some k ∧ 0 ≤ k ∧ k < 8
  a : ∀ j : Nat, j < p * p → ∃ x : Int, R[1 + 2 * j]? = some x ∧ 0 ≤ x
  b : ∀ j : Nat, j < p * p → ∃ x : Int, R[2 + 2 * j]? = some x ∧ Bit x
  t : ∀ r : Nat, r < p → ∃ x : Int, R[1 + 2 * p * p + r]? = some x ∧ Bit x
/-- one row of a band -/
def BRow (p : Nat) (d : D) : Prop := ∃ (lo hi : List Int) (a : Int), d = .lst [.str (bits lo), .str [if a = 0 then 48 else 49], .str (bits hi)] ∧ lo.length = p ∧ hi.length = p ∧ (∀ x ∈ lo, Bit x) ∧ (∀ x ∈ hi, Bit x) ∧ Bit a ∧ 1 ∈ hi
theorem mem_of_ix {α : Type} {l : List α} {P : α → Prop} (h : ∀ (i : Nat) (y : α), l[i]? = some y → P y) : ∀ y ∈ l, P y := fun y hy => by
  obtain ⟨i, hi⟩ := List.mem_iff_getElem?.mp hy
  exact h i y hi
theorem ix_bit {l : List Int} {p c : Nat} (hl : l.length = p) (hc : c < p) (h : ∀ x ∈ l, Bit x) : ∃ x, l[c]? = some x ∧ Bit x := ⟨_, List.getElem?_eq_getElem (by omega), h _ (List.getElem_mem _)⟩
theorem bit_mul {x y : Int} (hx : Bit x) (hy : Bit y) : Bit (x * y) := by
  rcases hx with rfl | rfl <;> rcases hy with rfl | rfl <;> simp [Bit]
theorem bit_abs {x : Int} (h : Bit x) : x.natAbs < 18446744073709551616 := by rcases h with rfl | rfl <;> decide
section
variable {p r : Nat} {R : List Int} (hp : p ≤ 4) (hp1 : 1 ≤ p) (hr : r < p) (hR : RowOk p R)
include hp hp1 hr hR
theorem jj {c : Nat} (hc : c < p) : r * p + c < p * p := by
  have : r * p + p ≤ p * p := by
    have := Nat.mul_le_mul_right p (show r + 1 ≤ p from hr)
    rw [Nat.succ_mul] at this
    exact this
  omega
theorem band_low (x2 x4 x5 x6 x7 x8 : SV) (f : Bool) (h5 : isOw [x5] 0 = false) : ∃ low : List Int, eLc (iR1 (eVar 0)) (hName 5) tTrue (e1 gInt (e2 (gC cGt) (e2 gAt (eVar 1) (e2 gAdd (eLit (.int 1)) (e2 gMul (eLit (.int 2)) (e2 gAdd (e2 gMul (eVar 3) (eVar 0)) (eVar 5))))) (eLit (.int 0)))) [5]
    [.sh (.int p) true, .sh (.lst (R.map .int)) f, x2, .sh (.int r) true, x4, x5, x6, x7, x8] = .ok ⟨.lst (low.map .int), .nw, true⟩ ∧ low.length = p ∧ ∀ x ∈ low, Bit x := by
  obtain ⟨low, e1, e2, e3⟩ := lc_ints (j := 5) (it := iR1 (eVar 0)) (el := e1 gInt (e2 (gC cGt) (e2 gAt (eVar 1) (e2 gAdd (eLit (.int 1)) (e2 gMul (eLit (.int 2)) (e2 gAdd (e2 gMul (eVar 3) (eVar 0)) (eVar 5))))) (eLit (.int 0))))
    (ρ := [.sh (.int p) true, .sh (.lst (R.map .int)) f, x2, .sh (.int r) true, x4, x5, x6, x7, x8]) p (fun _ y => Bit y) (by
      rw [iR1_at (n := p) (m := .pl) (b := true) (by simp) (by omega)]
      simp) (by omega) (by cases x5 <;> first | rfl | cases h5) (by simp) (fun c hc => by
      obtain ⟨x, hx, _⟩ := hR.a _ (jj hp hp1 hr hR hc)
      have hcast : ((r * p + c : Nat) : Int) = (r : Int) * p + c := by simp
      have m1 : (r : Int).natAbs < 18446744073709551616 ∨ (p : Int).natAbs < 18446744073709551616 := by left; omega
      have m2 : (2 : Int).natAbs < 18446744073709551616 ∨ ((r : Int) * p + c).natAbs < 18446744073709551616 := by left; decide
      have e : gAt ⟨.lst (R.map .int), .pl, f⟩ ⟨.int (1 + 2 * ((r : Int) * p + c)), .pl, true⟩ = .ok ⟨.int x, .pl, true⟩ := gAt_ints (by omega) (by
        rw [show (1 + 2 * ((r : Int) * p + c)).toNat = 1 + 2 * (r * p + c) by
          have : ((r * p + c : Nat) : Int) = (r : Int) * p + c := by simp
          omega]
        exact hx)
      refine ⟨if 0 < x then 1 else 0, ?_, ?_⟩
      · simp [gMul_i m1, gMul_i m2, e]
      · by_cases h : 0 < x <;> simp [h, Bit])
  exact ⟨low, e1, e2, mem_of_ix e3⟩
theorem band_high (x2 x4 x5 x6 x7 x8 : SV) (f : Bool) (h5 : isOw [x5] 0 = false) : ∃ low : List Int, eLc (iR1 (eVar 0)) (hName 5) tTrue (e2 gAt (eVar 1) (e2 gAdd (eLit (.int 2)) (e2 gMul (eLit (.int 2)) (e2 gAdd (e2 gMul (eVar 3) (eVar 0)) (eVar 5))))) [5]
    [.sh (.int p) true, .sh (.lst (R.map .int)) f, x2, .sh (.int r) true, x4, x5, x6, x7, x8] = .ok ⟨.lst (low.map .int), .nw, true⟩ ∧ low.length = p ∧ ∀ x ∈ low, Bit x := by
  obtain ⟨low, e1, e2, e3⟩ := lc_ints (j := 5) (it := iR1 (eVar 0)) (el := e2 gAt (eVar 1) (e2 gAdd (eLit (.int 2)) (e2 gMul (eLit (.int 2)) (e2 gAdd (e2 gMul (eVar 3) (eVar 0)) (eVar 5)))))
    (ρ := [.sh (.int p) true, .sh (.lst (R.map .int)) f, x2, .sh (.int r) true, x4, x5, x6, x7, x8]) p (fun _ y => Bit y) (by
      rw [iR1_at (n := p) (m := .pl) (b := true) (by simp) (by omega)]
      simp) (by omega) (by cases x5 <;> first | rfl | cases h5) (by simp) (fun c hc => by
      obtain ⟨x, hx, hb⟩ := hR.b _ (jj hp hp1 hr hR hc)
      have hcast : ((r * p + c : Nat) : Int) = (r : Int) * p + c := by simp
      have m1 : (r : Int).natAbs < 18446744073709551616 ∨ (p : Int).natAbs < 18446744073709551616 := by left; omega
      have m2 : (2 : Int).natAbs < 18446744073709551616 ∨ ((r : Int) * p + c).natAbs < 18446744073709551616 := by left; decide
      have e : gAt ⟨.lst (R.map .int), .pl, f⟩ ⟨.int (2 + 2 * ((r : Int) * p + c)), .pl, true⟩ = .ok ⟨.int x, .pl, true⟩ := gAt_ints (by omega) (by
        rw [show (2 + 2 * ((r : Int) * p + c)).toNat = 2 + 2 * (r * p + c) by
          have : ((r * p + c : Nat) : Int) = (r : Int) * p + c := by simp
          omega]
        exact hx)
      exact ⟨x, by simp [gMul_i m1, gMul_i m2, e], hb⟩)
  exact ⟨low, e1, e2, mem_of_ix e3⟩
end
/-- [u[c] * w[c] for c in range(period)] -/
theorem band_and {p : Nat} (hp : p ≤ 4) (u w : List Int) (hu : u.length = p) (hw : w.length = p) (bu : ∀ x ∈ u, Bit x) (bw : ∀ x ∈ w, Bit x) (i k : Nat) (ρ : En) (fu fw : Bool) (hl : ρ.length = 9) (h0 : ρ[0]? = some (.sh (.int p) true)) (hi : ρ[i]? = some (.ow (.lst (u.map .int)) fu)) (hk : ρ[k]? = some (.ow (.lst (w.map .int)) fw)) (h5 : isOw ρ 5 = false) :
    ∃ low : List Int, eLc (iR1 (eVar 0)) (hName 5) tTrue (e2 gMul (e2 gAt (eVar i) (eVar 5)) (e2 gAt (eVar k) (eVar 5))) [5] ρ = .ok ⟨.lst (low.map .int), .nw, true⟩ ∧ low.length = p ∧ ∀ x ∈ low, Bit x := by
  have i5 : i ≠ 5 := fun z => by subst z; unfold isOw at h5; rw [hi] at h5; cases h5
  have k5 : k ≠ 5 := fun z => by subst z; unfold isOw at h5; rw [hk] at h5; cases h5
  obtain ⟨low, e1, e2, e3⟩ := lc_ints (j := 5) (it := iR1 (eVar 0)) (el := e2 gMul (e2 gAt (eVar i) (eVar 5)) (e2 gAt (eVar k) (eVar 5))) (ρ := ρ) p (fun _ y => Bit y) (by
      rw [iR1_at (n := p) (var_sh h0) (by omega)]
      simp) (by omega) h5 (by omega) (fun c hc => by
      obtain ⟨x, hx, bx⟩ := ix_bit hu hc bu
      obtain ⟨y, hy, bY⟩ := ix_bit hw hc bw
      have v1 : eVar i ((ρ.set 5 .un).set 5 (.sh (.int c) true)) = .ok ⟨.lst (u.map .int), .bo, fu⟩ := var_ow (by rw [List.getElem?_set_ne (Ne.symm i5), List.getElem?_set_ne (Ne.symm i5)]; exact hi)
      have v2 : eVar k ((ρ.set 5 .un).set 5 (.sh (.int c) true)) = .ok ⟨.lst (w.map .int), .bo, fw⟩ := var_ow (by rw [List.getElem?_set_ne (Ne.symm k5), List.getElem?_set_ne (Ne.symm k5)]; exact hk)
      have v3 : eVar 5 ((ρ.set 5 .un).set 5 (.sh (.int c) true)) = .ok ⟨.int c, .pl, true⟩ := by rw [var_set (by simp; omega)]; rfl
      refine ⟨x * y, ?_, bit_mul bx bY⟩
      rw [e2_ap, e2_ap, v1, bind_ok', v3, bind_ok', gAt_ints (by omega) (by simpa using hx), bind_ok', e2_ap, v2, bind_ok', v3, bind_ok', gAt_ints (by omega) (by simpa using hy), bind_ok', gMul_i (.inl (bit_abs bx))])
  exact ⟨low, e1, e2, mem_of_ix e3⟩
end Pf
set_option maxHeartbeats 4000000
namespace Pf
open PySem L2 Ev
/-- the slots while a band's row is drawn -/
abbrev bst (p r : Nat) (R : List Int) (f : Bool) (rows : List D) (low high : List Int) (a : Int) (x5 x8 : SV) : En :=
  [.sh (.int p) true, .sh (.lst (R.map .int)) f, .ow (.lst rows) true, .sh (.int r) true, .ow (.lst (low.map .int)) true, x5, .ow (.lst (high.map .int)) true, .sh (.int a) true, x8]
structure Bits2 (p : Nat) (low high : List Int) (a : Int) : Prop where
  l : low.length = p
  h : high.length = p
  bl : ∀ x ∈ low, Bit x
  bh : ∀ x ∈ high, Bit x
  ba : Bit a
theorem set_bits {l : List Int} {k : Nat} (h : ∀ x ∈ l, Bit x) : ∀ x ∈ l.set k 1, Bit x := fun x hx => by
  rcases List.mem_or_eq_of_mem_set hx with z | z
  · exact h x z
  · exact .inr z
theorem set_in {l : List Int} {k : Nat} (h : k < l.length) : (1 : Int) ∈ l.set k 1 := List.mem_of_getElem? (i := k) (by simp [h])
section
variable {p r : Nat} {R : List Int} (hp : p ≤ 4) (hr : r < p) {k0 : Int} (hk : R[0]? = some k0) (hk0 : 0 ≤ k0) (hk8 : k0 < 8) {f : Bool} {rows : List D} {low high : List Int} {a : Int} {x5 x8 : SV} (h5 : isOw [x5] 0 = false)
include hp hr hk hk0 hk8 h5
theorem R0 {m : Mk3} : gAt ⟨.lst (R.map .int), m, f⟩ ⟨.int 0, .pl, true⟩ = .ok ⟨.int k0, .pl, true⟩ := gAt_ints (by omega) (by simpa using hk)
theorem five {y4 y6 : SV} : isOw [.sh (.int p) true, .sh (.lst (R.map .int)) f, .ow (.lst rows) true, .sh (.int r) true, y4, x5, y6, .sh (.int a) true, x8] 5 = false := by cases x5 <;> first | rfl | cases h5
theorem band_if1 (hB : Bits2 p low high a) : ∃ low' high' a', (sIf (t2 cEq (e1 gSum (eVar 4)) (eLit (.int 0))) (sSetA 4 (eVar 3) (eLit (.int 1))) sNext) (bst p r R f rows low high a x5 x8) = .next (bst p r R f rows low' high' a' x5 x8) ∧ Bits2 p low' high' a' := by
  by_cases hs : low.sum = 0
  · refine ⟨low.set r 1, high, a, ?_, by simpa using hB.l, hB.h, set_bits hB.bl, hB.bh, hB.ba⟩
    rw [if_ap]
    simp only [t2_ap, e1_ap, var_s, var_0, slV_ow, bind_ok', gSum_i, lit_ap, cEq_i, ofO_some, out_ok, hs, decide_true, if_true]
    rw [set_at (l := low.map .int) (k := (r : Int)) (y := .int 1) (m := .pl) (m' := .pl) (c := true) (c' := true) rfl (by simp) (by have := hB.l; simp; omega) rfl rfl]
    simp [List.map_set]
  · refine ⟨low, high, a, ?_, hB⟩
    rw [if_ap]
    simp [gSum_i, cEq_i, hs]
theorem band_if2 (hB : Bits2 p low high a) : ∃ low' high' a', (sSeq (sOwn 6 (eLc (iR1 (eVar 0)) (hName 5) tTrue (e2 gMul (e2 gAt (eVar 6) (eVar 5)) (e2 gAt (eVar 4) (eVar 5))) [5]))
    (sSeq (sIf (tOr' (t2 cEq (e1 gSum (eVar 6)) (eLit (.int 0))) (t2 cEq (e2 gAt (eVar 1) (eLit (.int 0))) (eLit (.int 3)))) (sOwn 6 (e1 gList (eVar 4))) sNext)
    (sAsg 7 (e2 gMul (e2 gAt (eLst (aCons (eVar 7) (aCons (eVar 7) (aCons (eLit (.int 1)) (aCons (eLit (.int 0)) aNil))))) (e2 gAt (eVar 1) (eLit (.int 0)))) (e2 gAt (eVar 4) (eVar 3)))))) (bst p r R f rows low high a x5 x8) = .next (bst p r R f rows low' high' a' x5 x8) ∧ Bits2 p low' high' a' ∨ ¬ k0 ≤ 3 := by
  by_cases h3 : ¬ k0 ≤ 3
  · exact ⟨low, high, a, .inr h3⟩
  have h3 := Decidable.not_not.mp h3
  obtain ⟨hi, w1, l1, b1⟩ := band_and hp high low hB.h hB.l hB.bh hB.bl 6 4 (bst p r R f rows low high a x5 x8) true true rfl rfl rfl rfl (five hp hr hk hk0 hk8 h5)
  obtain ⟨lr, hlr, blr⟩ := ix_bit hB.l hr hB.bl
  have er0 := fun {m : Mk3} => R0 hp hr hk hk0 hk8 h5 (f := f) (m := m)
  have e3 : ∀ hi : List Int, ∃ a', (sAsg 7 (e2 gMul (e2 gAt (eLst (aCons (eVar 7) (aCons (eVar 7) (aCons (eLit (.int 1)) (aCons (eLit (.int 0)) aNil))))) (e2 gAt (eVar 1) (eLit (.int 0)))) (e2 gAt (eVar 4) (eVar 3)))) (bst p r R f rows low hi a x5 x8) = .next (bst p r R f rows low hi a' x5 x8) ∧ Bit a' := fun hi => by
    obtain ⟨v, hv, bv⟩ : ∃ v, ([a, a, 1, 0] : List Int)[k0.toNat]? = some v ∧ Bit v := by
      have : k0 = 0 ∨ k0 = 1 ∨ k0 = 2 ∨ k0 = 3 := by omega
      rcases this with rfl | rfl | rfl | rfl
      · exact ⟨a, rfl, hB.ba⟩
      · exact ⟨a, rfl, hB.ba⟩
      · exact ⟨1, rfl, .inr rfl⟩
      · exact ⟨0, rfl, .inl rfl⟩
    have ev : gAt ⟨.lst [.int a, .int a, .int 1, .int 0], .nw, true⟩ ⟨.int k0, .pl, true⟩ = .ok ⟨.int v, .pl, true⟩ := gAt_ints (l := [a, a, 1, 0]) hk0 hv
    have el : gAt ⟨.lst (low.map .int), .bo, true⟩ ⟨.int (r : Int), .pl, true⟩ = .ok ⟨.int lr, .pl, true⟩ := gAt_ints (by omega) (by simpa using hlr)
    refine ⟨v * lr, ?_, bit_mul bv blr⟩
    simp [er0, ev, el, gMul_i (.inl (bit_abs bv))]
  by_cases hs : hi.sum = 0 ∨ k0 = 3
  · obtain ⟨a', e4, ba'⟩ := e3 low
    refine ⟨low, low, a', .inl ⟨seq_nx (ρ1 := bst p r R f rows low hi a x5 x8) ?_ (seq_nx (ρ1 := bst p r R f rows low low a x5 x8) ?_ e4), hB.l, hB.l, hB.bl, hB.bl, ba'⟩⟩
    · rw [own_ap, w1]
      simp
    · have : (decide (hi.sum = 0) = true ∨ decide (k0 = 3) = true) := by simpa using hs
      rw [if_ap]
      by_cases hs1 : hi.sum = 0
      · simp [gSum_i, cEq_i, hs1, gList, items?]
      · have hs2 : k0 = 3 := by rcases hs with z | z; exact absurd z hs1; exact z
        subst hs2
        simp [gSum_i, cEq_i, hs1, er0, gList, items?]
  · obtain ⟨a', e4, ba'⟩ := e3 hi
    refine ⟨low, hi, a', .inl ⟨seq_nx (ρ1 := bst p r R f rows low hi a x5 x8) ?_ (seq_nx (ρ1 := bst p r R f rows low hi a x5 x8) ?_ e4), hB.l, l1, hB.bl, b1, ba'⟩⟩
    · rw [own_ap, w1]
      simp
    · have h1 : ¬ hi.sum = 0 := fun z => hs (.inl z)
      have h2 : ¬ k0 = 3 := fun z => hs (.inr z)
      rw [if_ap]
      simp [gSum_i, cEq_i, h1, h2, er0]
end
theorem band_row {p r : Nat} {R : List Int} (hp : p ≤ 4) (hp1 : 1 ≤ p) (hr : r < p) (hR : RowOk p R) (f : Bool) (rows : List D) (hrows : rows.length < 1000) (x4 x5 x6 x7 x8 : SV) (h5 : isOw [x5] 0 = false) (h8 : isOw [x8] 0 = false) :
    ∃ (row : D) (low high : List Int) (a : Int), b__law_band_1 [.sh (.int p) true, .sh (.lst (R.map .int)) f, .ow (.lst rows) true, .sh (.int r) true, x4, x5, x6, x7, x8] = .next (bst p r R f (rows ++ [row]) low high a x5 x8) ∧ BRow p row := by
  obtain ⟨k0, hk, hk0, hk8⟩ := hR.k
  obtain ⟨t, ht, bt⟩ := hR.t r hr
  have er0 := fun {m : Mk3} {f : Bool} => R0 hp hr hk hk0 hk8 h5 (f := f) (m := m)
  obtain ⟨low, w1, l1, b1⟩ := band_low hp hp1 hr hR (.ow (.lst rows) true) x4 x5 x6 x7 x8 f h5
  obtain ⟨high, e2', l2, b2⟩ := band_high hp hp1 hr hR (.ow (.lst rows) true) (.ow (.lst (low.map .int)) true) x5 x6 x7 x8 f h5
  have e3 : (sAsg 7 (e2 gAt (eVar 1) (e2 gAdd (e2 gAdd (eLit (.int 1)) (e2 gMul (e2 gMul (eLit (.int 2)) (eVar 0)) (eVar 0))) (eVar 3)))) [.sh (.int p) true, .sh (.lst (R.map .int)) f, .ow (.lst rows) true, .sh (.int r) true, .ow (.lst (low.map .int)) true, x5, .ow (.lst (high.map .int)) true, x7, x8] = .next (bst p r R f rows low high t x5 x8) := by
    have m1 : (2 : Int).natAbs < 18446744073709551616 ∨ (p : Int).natAbs < 18446744073709551616 := by left; decide
    have m2 : (2 * (p : Int)).natAbs < 18446744073709551616 ∨ (p : Int).natAbs < 18446744073709551616 := by left; omega
    have hcast : ((2 * p * p : Nat) : Int) = 2 * (p : Int) * p := by simp
    have e : gAt ⟨.lst (R.map .int), .pl, f⟩ ⟨.int (1 + 2 * (p : Int) * p + r), .pl, true⟩ = .ok ⟨.int t, .pl, true⟩ := gAt_ints (by omega) (by
      rw [show (1 + 2 * (p : Int) * p + r).toNat = 1 + 2 * p * p + r by omega]
      exact ht)
    simp [gMul_i m1, gMul_i m2, e]
  have hB : Bits2 p low high t := ⟨l1, l2, b1, b2, bt⟩
  have c4 : ∃ low' high' a', (sIf (t2 cLe (e2 gAt (eVar 1) (eLit (.int 0))) (eLit (.int 3))) (sSeq (sIf (t2 cEq (e1 gSum (eVar 4)) (eLit (.int 0))) (sSetA 4 (eVar 3) (eLit (.int 1))) sNext)
    (sSeq (sOwn 6 (eLc (iR1 (eVar 0)) (hName 5) tTrue (e2 gMul (e2 gAt (eVar 6) (eVar 5)) (e2 gAt (eVar 4) (eVar 5))) [5]))
    (sSeq (sIf (tOr' (t2 cEq (e1 gSum (eVar 6)) (eLit (.int 0))) (t2 cEq (e2 gAt (eVar 1) (eLit (.int 0))) (eLit (.int 3)))) (sOwn 6 (e1 gList (eVar 4))) sNext)
    (sAsg 7 (e2 gMul (e2 gAt (eLst (aCons (eVar 7) (aCons (eVar 7) (aCons (eLit (.int 1)) (aCons (eLit (.int 0)) aNil))))) (e2 gAt (eVar 1) (eLit (.int 0)))) (e2 gAt (eVar 4) (eVar 3))))))) sNext) (bst p r R f rows low high t x5 x8) = .next (bst p r R f rows low' high' a' x5 x8) ∧ Bits2 p low' high' a' := by
    by_cases h3 : k0 ≤ 3
    · obtain ⟨lo, hi, a, e4, hB4⟩ := band_if1 hp hr hk hk0 hk8 h5 hB (f := f) (rows := rows) (x8 := x8)
      obtain ⟨lo', hi', a', h | h⟩ := band_if2 hp hr hk hk0 hk8 h5 hB4 (f := f) (rows := rows) (x8 := x8)
      · refine ⟨lo', hi', a', ?_, h.2⟩
        rw [if_ap]
        simp only [t2_ap, e2_ap, var_s, var_0, slV_sh, sc_lst, Bool.or_false, bind_ok', lit_ap, er0, cLe_i, ofO_some, out_ok, h3, decide_true, if_true]
        exact seq_nx e4 h.1
      · exact absurd h3 h
    · refine ⟨low, high, t, ?_, hB⟩
      rw [if_ap]
      simp [er0, h3]
  obtain ⟨lo4, hi4, a4, e4, hB4⟩ := c4
  have c5 : ∃ low', (sIf (t2 cEq (e2 gAt (eVar 1) (eLit (.int 0))) (eLit (.int 4))) (sOwn 4 (eLc (iR1 (eVar 0)) (hName 5) tTrue (e2 gMul (e2 gAt (eVar 4) (eVar 5)) (e2 gAt (eVar 6) (eVar 5))) [5])) sNext) (bst p r R f rows lo4 hi4 a4 x5 x8) = .next (bst p r R f rows low' hi4 a4 x5 x8) ∧ Bits2 p low' hi4 a4 := by
    by_cases h4 : k0 = 4
    · subst h4
      obtain ⟨lo, e, l, b⟩ := band_and hp lo4 hi4 hB4.l hB4.h hB4.bl hB4.bh 4 6 (bst p r R f rows lo4 hi4 a4 x5 x8) true true rfl rfl rfl rfl (five hp hr hk hk0 hk8 h5)
      refine ⟨lo, ?_, l, hB4.h, b, hB4.bh, hB4.ba⟩
      rw [if_ap]
      simp only [t2_ap, e2_ap, var_s, var_0, slV_sh, sc_lst, Bool.or_false, bind_ok', lit_ap, er0, cEq_i, ofO_some, out_ok, decide_true, if_true, own_ap, e]
      simp
    · refine ⟨lo4, ?_, hB4⟩
      rw [if_ap]
      simp [er0, cEq_i, h4]
  obtain ⟨lo5, e5, hB5⟩ := c5
  have c6 : ∃ low', (sIf (t2 cEq (e2 gAt (eVar 1) (eLit (.int 0))) (eLit (.int 5))) (sOwn 4 (eLc (iR1 (eVar 0)) (hName 5) tTrue (eLit (.int 0)) [5])) sNext) (bst p r R f rows lo5 hi4 a4 x5 x8) = .next (bst p r R f rows low' hi4 a4 x5 x8) ∧ Bits2 p low' hi4 a4 := by
    by_cases h4 : k0 = 5
    · subst h4
      obtain ⟨lo, e, l, b⟩ := lc_ints (j := 5) (it := iR1 (eVar 0)) (el := eLit (.int 0)) (ρ := bst p r R f rows lo5 hi4 a4 x5 x8) p (fun _ y => Bit y) (by
        rw [iR1_at (n := p) (m := .pl) (b := true) (by simp) (by omega)]
        simp) (by omega) (five hp hr hk hk0 hk8 h5) (by simp) (fun c hc => ⟨0, rfl, .inl rfl⟩)
      refine ⟨lo, ?_, l, hB5.h, mem_of_ix b, hB5.bh, hB5.ba⟩
      rw [if_ap]
      simp only [t2_ap, e2_ap, var_s, var_0, slV_sh, sc_lst, Bool.or_false, bind_ok', lit_ap, er0, cEq_i, ofO_some, out_ok, decide_true, if_true, own_ap, e]
      simp
    · refine ⟨lo5, ?_, hB5⟩
      rw [if_ap]
      simp [er0, cEq_i, h4]
  obtain ⟨lo6, e6, hB6⟩ := c6
  have c7 : ∃ high', (sIf (t2 cEq (e1 gSum (eVar 6)) (eLit (.int 0))) (sSetA 6 (eVar 3) (eLit (.int 1))) sNext) (bst p r R f rows lo6 hi4 a4 x5 x8) = .next (bst p r R f rows lo6 high' a4 x5 x8) ∧ Bits2 p lo6 high' a4 ∧ 1 ∈ high' := by
    by_cases hs : hi4.sum = 0
    · refine ⟨hi4.set r 1, ?_, ⟨hB6.l, by simpa using hB6.h, hB6.bl, set_bits hB6.bh, hB6.ba⟩, set_in (by have := hB6.h; omega)⟩
      rw [if_ap]
      simp only [t2_ap, e1_ap, var_s, var_0, slV_ow, bind_ok', gSum_i, lit_ap, cEq_i, ofO_some, out_ok, hs, decide_true, if_true]
      rw [set_at (l := hi4.map .int) (k := (r : Int)) (y := .int 1) (m := .pl) (m' := .pl) (c := true) (c' := true) rfl (by simp) (by have := hB6.h; simp; omega) rfl rfl]
      simp [List.map_set]
    · refine ⟨hi4, ?_, hB6, (sum_bits hB6.bh).2.2 hs⟩
      rw [if_ap]
      simp [gSum_i, cEq_i, hs]
  obtain ⟨hi7, e7, hB7, hone⟩ := c7
  refine ⟨.lst [.str (bits lo6), .str [if a4 = 0 then 48 else 49], .str (bits hi7)], lo6, hi7, a4, ?_, lo6, hi7, a4, rfl, hB7.l, hB7.h, hB7.bl, hB7.bh, hB7.ba, hone⟩
  have h8' : ∀ y4 y6 : SV, isOw [.sh (.int p) true, .sh (.lst (R.map .int)) f, .ow (.lst rows) true, .sh (.int r) true, y4, x5, y6, .sh (.int a4) true, x8] 8 = false := fun y4 y6 => by cases x8 <;> first | rfl | cases h8
  have j1 := join_bits (j := 8) (it := iAll (eVar 4)) (ρ := bst p r R f rows lo6 hi7 a4 x5 x8) (l := lo6) (iAll_l (m := .bo) (b := true) (by simp)) rfl (by have := hB7.l; omega) hB7.bl (by simp) (h8' _ _)
  have j2 := join_bits (j := 8) (it := iAll (eVar 6)) (ρ := bst p r R f rows lo6 hi7 a4 x5 x8) (l := hi7) (iAll_l (m := .bo) (b := true) (by simp)) rfl (by have := hB7.h; omega) hB7.bh (by simp) (h8' _ _)
  have ea : gAt ⟨.str [48, 49], .pl, true⟩ ⟨.int a4, .pl, true⟩ = .ok ⟨.str [if a4 = 0 then 48 else 49], .pl, true⟩ := by
    rcases hB7.ba with z | z <;> subst z <;> rfl
  unfold b__law_band_1
  refine seq_nx (ρ1 := [.sh (.int p) true, .sh (.lst (R.map .int)) f, .ow (.lst rows) true, .sh (.int r) true, .ow (.lst (low.map .int)) true, x5, x6, x7, x8]) (by rw [own_ap, w1]; simp) ?_
  refine seq_nx (ρ1 := [.sh (.int p) true, .sh (.lst (R.map .int)) f, .ow (.lst rows) true, .sh (.int r) true, .ow (.lst (low.map .int)) true, x5, .ow (.lst (high.map .int)) true, x7, x8]) (by rw [own_ap, e2']; simp) ?_
  refine seq_nx e3 (seq_nx e4 (seq_nx e5 (seq_nx e6 (seq_nx e7 ?_))))
  have hl : rows.length < 1000000 := by omega
  simp [sApp, j1, j2, ea, hl]
end Pf
set_option maxHeartbeats 4000000
namespace Pf
open PySem L2 Ev
theorem lst_nil {ρ : En} {i : Nat} (h : i < ρ.length) : sOwn i (eLst aNil) ρ = .next (ρ.set i (.ow (.lst []) true)) := by
  simp [h]
theorem band_ok {p : Nat} {R : List Int} (hp : p ≤ 4) (hp1 : 1 ≤ p) (hR : RowOk p R) : ∃ rows : List D, Φ__law_band [.int p, .lst (R.map .int)] = .ok (.lst rows, true) ∧ rows.length = p ∧ ∀ d ∈ rows, BRow p d := by
  obtain ⟨ρ, e, rows, x3, x4, x5, x6, x7, x8, rfl, h1, h2, _⟩ := loop_pred (b := true) (h := hName 3) (g := b__law_band_1) (fun k ρ => ∃ (rows : List D) (x3 x4 x5 x6 x7 x8 : SV), ρ = [.sh (.int p) true, .sh (.lst (R.map .int)) false, .ow (.lst rows) true, x3, x4, x5, x6, x7, x8] ∧ rows.length = k ∧ (∀ d ∈ rows, BRow p d) ∧ isOw [x5] 0 = false ∧ isOw [x8] 0 = false) (rng 0 p) 0
    [.sh (.int p) true, .sh (.lst (R.map .int)) false, .ow (.lst []) true, .un, .un, .un, .un, .un, .un] ⟨[], .un, .un, .un, .un, .un, .un, rfl, rfl, (fun d h => by simp at h), rfl, rfl⟩ (fun i d ρ hd ⟨rows, x3, x4, x5, x6, x7, x8, hρ, h1, h2, h5, h8⟩ => by
      subst hρ
      obtain ⟨hi, rfl⟩ := rng_get hd
      rw [Nat.zero_add] at h1 ⊢
      obtain ⟨row, low, high, a, e, hb⟩ := band_row hp hp1 hi hR false rows (by omega) x4 x5 x6 x7 x8 h5 h8
      refine ⟨[.sh (.int p) true, .sh (.lst (R.map .int)) false, .ow (.lst rows) true, .sh (.int i) true, x4, x5, x6, x7, x8], _, by simp, .inl e, rows ++ [row], _, _, x5, _, _, x8, rfl, by simp [h1], fun d hd => ?_, h5, h8⟩
      rcases List.mem_append.mp hd with z | z
      · exact h2 d z
      · rw [List.mem_singleton.mp z]; exact hb)
  refine ⟨rows, bodyR_ret (g := g__law_band) (n := 9) (ds := [.int p, .lst (R.map .int)]) (a := ⟨.lst rows, .bo, true⟩) ?_, by simpa using h1, h2⟩
  show g__law_band [.sh (.int p) true, .sh (.lst (R.map .int)) false, .un, .un, .un, .un, .un, .un, .un] = _
  unfold g__law_band
  refine seq_nx (lst_nil (by simp)) ?_
  have hr : iR1 (eVar 0) [.sh (.int p) true, .sh (.lst (R.map .int)) false, .ow (.lst []) true, .un, .un, .un, .un, .un, .un] = .ok ⟨rng 0 p, true, false⟩ := by
    rw [iR1_at (n := p) (m := .pl) (b := true) (by simp) (by omega)]
    simp
  refine seq_nx (ρ1 := [.sh (.int p) true, .sh (.lst (R.map .int)) false, .ow (.lst rows) true, x3, x4, x5, x6, x7, x8]) ?_ ?_
  · rw [for_ap]
    show (iR1 (eVar 0) [.sh (.int p) true, .sh (.lst (R.map .int)) false, .ow (.lst []) true, .un, .un, .un, .un, .un, .un]).toOut _ _ = _
    rw [hr]
    exact e
  · simp
/-- the sizes of a band's digits -/
def bsz (p : Nat) : List Int := [8] ++ (List.replicate (p * p) [3, 2]).flatten ++ List.replicate p 2
theorem bsz_row {p : Nat} (hp : p ≤ 4) (hp1 : 1 ≤ p) {R : List Int} (h : Dg R (bsz p)) : RowOk p R := by
  have key : ∀ p : Nat, p ≤ 4 → 1 ≤ p → (bsz p)[0]? = some 8 ∧ (∀ j : Nat, j < p * p → (bsz p)[1 + 2 * j]? = some 3) ∧ (∀ j : Nat, j < p * p → (bsz p)[2 + 2 * j]? = some 2) ∧ (∀ r : Nat, r < p → (bsz p)[1 + 2 * p * p + r]? = some 2) := by
    intro p h1 h2
    have : p = 1 ∨ p = 2 ∨ p = 3 ∨ p = 4 := by omega
    rcases this with rfl | rfl | rfl | rfl <;> decide
  obtain ⟨k1, k2, k3, k4⟩ := key p hp hp1
  have get : ∀ (i : Nat) (s : Int), (bsz p)[i]? = some s → ∃ x : Int, R[i]? = some x ∧ 0 ≤ x ∧ x < s := fun i s hs => by
    have hi := (List.getElem?_eq_some_iff.mp hs).1
    rw [← h.1] at hi
    exact ⟨_, List.getElem?_eq_getElem hi, h.2 i _ s (List.getElem?_eq_getElem hi) hs⟩
  refine ⟨?_, fun j hj => ?_, fun j hj => ?_, fun r hr => ?_⟩
  · obtain ⟨x, h1, h2, h3⟩ := get 0 8 k1
    exact ⟨x, h1, h2, h3⟩
  · obtain ⟨x, h1, h2, h3⟩ := get _ 3 (k2 j hj)
    exact ⟨x, h1, h2⟩
  · obtain ⟨x, h1, h2, h3⟩ := get _ 2 (k3 j hj)
    exact ⟨x, h1, by unfold Bit; omega⟩
  · obtain ⟨x, h1, h2, h3⟩ := get _ 2 (k4 r hr)
    exact ⟨x, h1, by unfold Bit; omega⟩
/-- a band -/
def WBand (p : Nat) (d : D) : Prop := ∃ rows : List D, d = .lst rows ∧ rows.length = p ∧ ∀ d ∈ rows, BRow p d
/-- a text of bits with a one -/
def Bits (s : List Nat) : Prop := ∀ c ∈ s, c = 48 ∨ c = 49
theorem bits_ok (l : List Int) : Bits (bits l) := fun c hc => by
  unfold bits at hc
  obtain ⟨x, _, rfl⟩ := List.mem_map.mp hc
  by_cases h : x = 0 <;> simp [h]
theorem bits_one {l : List Int} (h : 1 ∈ l) : 49 ∈ bits l := List.mem_map.mpr ⟨1, h, rfl⟩
/-- a fixed language's drawing: its prefix, its cycle of the family's period -/
def WLine (p : Nat) (d : D) : Prop := ∃ a b : List Nat, d = .lst [.str a, .str b] ∧ Bits a ∧ Bits b ∧ a.length ≤ 6 ∧ b.length = p ∧ 49 ∈ b
structure WData (d : D) (p : Nat) (fixed bands : List D) : Prop where
  eq : d = .lst [.int p, .lst fixed, .lst bands]
  p1 : 1 ≤ p
  p4 : p ≤ 4
  fx : ∀ x ∈ fixed, WLine p x
  bd : ∀ x ∈ bands, WBand p x
  f6 : fixed.length ≤ 6
  b2 : bands.length ≤ 2
  ne : bands = [] → fixed ≠ []
end Pf
set_option maxHeartbeats 4000000
namespace Pf
open PySem L2 Ev
/-- 14 digits of a fixed language -/
structure F14 (p : Nat) (R : List Int) : Prop where
  ex : ∃ r0 r1 r2 r3 r4 r5 r6 r7 r8 r9 r10 r11 r12 r13 : Int, R = [r0, r1, r2, r3, r4, r5, r6, r7, r8, r9, r10, r11, r12, r13] ∧ 0 ≤ r0 ∧ r0 < 8 ∧ 0 ≤ r1 ∧ 0 ≤ r2 ∧ 0 ≤ r3 ∧ r3 < 5 ∧ 0 ≤ r4 ∧ (Bit r5 ∧ Bit r6 ∧ Bit r7 ∧ Bit r8 ∧ Bit r9) ∧ Bit r10 ∧ Bit r11 ∧ Bit r12 ∧ Bit r13
def one14 : List Int := [8, 4, 2, 5, 5, 2, 2, 2, 2, 2, 2, 2, 2, 2]
theorem f14_of {p : Nat} {R : List Int} (h : Dg R one14) : F14 p R := by
  obtain ⟨hl, hd⟩ := h
  match R, hl with
  | [r0, r1, r2, r3, r4, r5, r6, r7, r8, r9, r10, r11, r12, r13], _ =>
    have h0 := hd 0 _ _ rfl rfl
    have h1 := hd 1 _ _ rfl rfl
    have h2 := hd 2 _ _ rfl rfl
    have h3 := hd 3 _ _ rfl rfl
    have h4 := hd 4 _ _ rfl rfl
    have h5 := hd 5 _ _ rfl rfl
    have h6 := hd 6 _ _ rfl rfl
    have h7 := hd 7 _ _ rfl rfl
    have h8 := hd 8 _ _ rfl rfl
    have h9 := hd 9 _ _ rfl rfl
    have h10 := hd 10 _ _ rfl rfl
    have h11 := hd 11 _ _ rfl rfl
    have h12 := hd 12 _ _ rfl rfl
    have h13 := hd 13 _ _ rfl rfl
    exact ⟨r0, r1, r2, r3, r4, r5, r6, r7, r8, r9, r10, r11, r12, r13, rfl, h0.1, h0.2, h1.1, h2.1, h3.1, h3.2, h4.1, ⟨by unfold Bit; omega, by unfold Bit; omega, by unfold Bit; omega, by unfold Bit; omega, by unfold Bit; omega⟩, by unfold Bit; omega, by unfold Bit; omega, by unfold Bit; omega, by unfold Bit; omega⟩
theorem cyc0 {p : Nat} {R : List Int} (hp : p ≤ 4) (hp1 : 1 ≤ p) (h : F14 p R) : (cut R (some 10) (some (10 + (p : Int)))).length = p ∧ ∀ x ∈ cut R (some 10) (some (10 + (p : Int))), Bit x := by
  obtain ⟨r0, r1, r2, r3, r4, r5, r6, r7, r8, r9, r10, r11, r12, r13, rfl, h0, h0', h1, h2, h3, h3', h4, hb, h10, h11, h12, h13⟩ := h.ex
  have : p = 1 ∨ p = 2 ∨ p = 3 ∨ p = 4 := by omega
  rcases this with rfl | rfl | rfl | rfl
  · have e : cut [r0, r1, r2, r3, r4, r5, r6, r7, r8, r9, r10, r11, r12, r13] (some 10) (some (10 + ((1 : Nat) : Int))) = [r10] := rfl
    rw [e]
    refine ⟨rfl, fun x hx => ?_⟩
    simp at hx
    subst hx
    assumption
  · have e : cut [r0, r1, r2, r3, r4, r5, r6, r7, r8, r9, r10, r11, r12, r13] (some 10) (some (10 + ((2 : Nat) : Int))) = [r10, r11] := rfl
    rw [e]
    refine ⟨rfl, fun x hx => ?_⟩
    simp at hx
    rcases hx with rfl | rfl <;> assumption
  · have e : cut [r0, r1, r2, r3, r4, r5, r6, r7, r8, r9, r10, r11, r12, r13] (some 10) (some (10 + ((3 : Nat) : Int))) = [r10, r11, r12] := rfl
    rw [e]
    refine ⟨rfl, fun x hx => ?_⟩
    simp at hx
    rcases hx with rfl | rfl | rfl <;> assumption
  · have e : cut [r0, r1, r2, r3, r4, r5, r6, r7, r8, r9, r10, r11, r12, r13] (some 10) (some (10 + ((4 : Nat) : Int))) = [r10, r11, r12, r13] := rfl
    rw [e]
    refine ⟨rfl, fun x hx => ?_⟩
    simp at hx
    rcases hx with rfl | rfl | rfl | rfl <;> assumption
/-- a cycle of the period -/
structure Cyc (p : Nat) (c : List Nat) : Prop where
  b : Bits c
  l : c.length = p
  o : 49 ∈ c
theorem ones_cyc {p : Nat} (hp1 : 1 ≤ p) : Cyc p (List.replicate p [49]).flatten := by
  have e : (List.replicate p [49]).flatten = List.replicate p 49 := by
    clear hp1
    induction p with
    | zero => rfl
    | succ p ih => rw [List.replicate_succ, List.flatten_cons, ih, List.replicate_succ]; rfl
  rw [e]
  exact ⟨fun c hc => .inr (List.eq_of_mem_replicate hc), List.length_replicate, List.mem_replicate.mpr ⟨by omega, rfl⟩⟩
theorem bits_lt {s : List Nat} (h : Bits s) {c : Nat} (hc : c ∈ s) : c < 0x110000 := by rcases h c hc with z | z <;> omega
/-- the slots of _law_fixed -/
abbrev fst (p : Nat) (bands : List D) (R B : List Int) (cy : List Nat) (r : List SV) : En := .sh (.int p) true :: .sh (.lst bands) false :: .sh (.lst (R.map .int)) false :: .sh (.lst (B.map .int)) false :: .sh (.str cy) true :: r
/-- prefix[spot] = 1 - prefix[spot] -/
theorem fixed_loop {p : Nat} {bands : List D} {R B : List Int} {cy : List Nat} {x5 x6 x7 x10 x11 x12 : SV} {am : Int} {n : Nat} (ham : 0 ≤ am) (ham2 : am ≤ 100) (hn : 0 < n → 1 ≤ am) (hR : ∀ k : Nat, k < n → ∃ x : Int, R[3 + k]? = some x ∧ 0 ≤ x) {P : List Int} (hP : P.length = am.toNat) (hb : ∀ x ∈ P, Bit x) :
    ∃ (P' : List Int) (x11' x12' : SV), loopF (hName 11) true b__law_fixed_1 (rng 0 n) (fst p bands R B cy [x5, x6, x7, .sh (.int am) true, .ow (.lst (P.map .int)) true, x10, x11, x12]) = .next (fst p bands R B cy [x5, x6, x7, .sh (.int am) true, .ow (.lst (P'.map .int)) true, x10, x11', x12']) ∧ P'.length = am.toNat ∧ ∀ x ∈ P', Bit x := by
  obtain ⟨ρ, e, P', x11', x12', rfl, h1, h2⟩ := loop_pred (b := true) (h := hName 11) (g := b__law_fixed_1) (fun k ρ => ∃ (P : List Int) (x11 x12 : SV), ρ = fst p bands R B cy [x5, x6, x7, .sh (.int am) true, .ow (.lst (P.map .int)) true, x10, x11, x12] ∧ P.length = am.toNat ∧ ∀ x ∈ P, Bit x) (rng 0 n) 0 _ ⟨P, x11, x12, rfl, hP, hb⟩ (fun i d ρ hd ⟨P, x11, x12, hρ, h1, h2⟩ => by
    subst hρ
    obtain ⟨hi, rfl⟩ := rng_get hd
    obtain ⟨x, hx, hx0⟩ := hR i hi
    have ha1 : 1 ≤ am := hn (by omega)
    have em : (if am > 1 then am else 1) = am := by split <;> omega
    have e1 : gAt ⟨.lst (R.map .int), .pl, false⟩ ⟨.int (3 + (i : Int)), .pl, true⟩ = .ok ⟨.int x, .pl, true⟩ := gAt_ints (by omega) (by rw [show (3 + (i : Int)).toNat = 3 + i by omega]; exact hx)
    have hs0 : 0 ≤ x % am := Int.emod_nonneg _ (by omega)
    have hs1 : x % am < am := Int.emod_lt_of_pos _ (by omega)
    obtain ⟨y, hy, by_⟩ : ∃ y, P[(x % am).toNat]? = some y ∧ Bit y := ⟨_, List.getElem?_eq_getElem (by omega), h2 _ (List.getElem_mem _)⟩
    have e2 : gAt ⟨.lst (P.map .int), .bo, true⟩ ⟨.int (x % am), .pl, true⟩ = .ok ⟨.int y, .pl, true⟩ := gAt_ints hs0 hy
    refine ⟨fst p bands R B cy [x5, x6, x7, .sh (.int am) true, .ow (.lst (P.map .int)) true, x10, .sh (.int i) true, x12], fst p bands R B cy [x5, x6, x7, .sh (.int am) true, .ow (.lst ((P.set (x % am).toNat (1 - y)).map .int)) true, x10, .sh (.int i) true, .sh (.int (x % am)) true], by simp, .inl ?_, _, _, _, rfl, by simpa using h1, fun z hz => ?_⟩
    · unfold b__law_fixed_1
      refine seq_nx (ρ1 := fst p bands R B cy [x5, x6, x7, .sh (.int am) true, .ow (.lst (P.map .int)) true, x10, .sh (.int i) true, .sh (.int (x % am)) true]) ?_ ?_
      · simp [e1, gMax_i, em, gMod_i (show 0 < am by omega)]
      · rw [set_at (l := P.map .int) (k := x % am) (y := .int (1 - y)) (m := .pl) (m' := .pl) (c := true) (c' := true) rfl (by simp) (by rw [List.length_map]; omega) (by simp [e2]) rfl]
        simp [List.map_set]
    · rcases List.mem_or_eq_of_mem_set hz with z | z
      · exact h2 _ z
      · subst z
        rcases by_ with z | z <;> subst z <;> simp [Bit])
  exact ⟨P', x11', x12', e, h1, h2⟩
end Pf
set_option maxHeartbeats 4000000
namespace Pf
open PySem L2 Ev
theorem fixed_ok {p : Nat} {R : List Int} (hp : p ≤ 4) (hp1 : 1 ≤ p) (hR : F14 p R) {bands : List D} (hbd : ∀ d ∈ bands, WBand p d) (hbl : bands.length ≤ 100) : ∃ d : D, Φ__law_fixed [.int p, .lst bands, .lst (R.map .int)] = .ok (d, true) ∧ WLine p d := by
  obtain ⟨cl, cb⟩ := cyc0 hp hp1 hR
  obtain ⟨r0, r1, r2, r3, r4, r5, r6, r7, r8, r9, r10, r11, r12, r13, hReq, h0, h0', h1, h2, h3z, h3', h4, hb5, h10, h11, h12, h13⟩ := hR.ex
  have hR0 : R[0]? = some r0 := by rw [hReq]; rfl
  have hR1 : R[1]? = some r1 := by rw [hReq]; rfl
  have hR2 : R[2]? = some r2 := by rw [hReq]; rfl
  have hR3 : R[3]? = some r3 := by rw [hReq]; rfl
  have hR4 : R[4]? = some r4 := by rw [hReq]; rfl
  have hB : cut R (some 5) (some 10) = [r5, r6, r7, r8, r9] := by rw [hReq]; rfl
  suffices h : ∃ d : D, ∃ m : Mk3, g__law_fixed [.sh (.int p) true, .sh (.lst bands) false, .sh (.lst (R.map .int)) false, .un, .un, .un, .un, .un, .un, .un, .un, .un, .un] = .ret ⟨d, m, true⟩ ∧ WLine p d by
    obtain ⟨d, m, h, hw⟩ := h
    exact ⟨d, bodyR_ret (g := g__law_fixed) (n := 13) (ds := [.int p, .lst bands, .lst (R.map .int)]) (a := ⟨d, m, true⟩) h, hw⟩
  have g0 := fun {m : Mk3} => gAt_ints (l := R) (m := m) (m' := .pl) (b := false) (b' := true) (i := 0) (x := r0) (by omega) hR0
  have g1 := fun {m : Mk3} => gAt_ints (l := R) (m := m) (m' := .pl) (b := false) (b' := true) (i := 1) (x := r1) (by omega) hR1
  have g2 := fun {m : Mk3} => gAt_ints (l := R) (m := m) (m' := .pl) (b := false) (b' := true) (i := 2) (x := r2) (by omega) hR2
  have g3 := fun {m : Mk3} => gAt_ints (l := R) (m := m) (m' := .pl) (b := false) (b' := true) (i := 3) (x := r3) (by omega) hR3
  generalize hcyc : cut R (some 10) (some (10 + (p : Int))) = C at cl cb
  -- the cycle
  have s2 : ∀ ρ : En, ρ = [.sh (.int p) true, .sh (.lst bands) false, .sh (.lst (R.map .int)) false, .sh (.lst ([r5, r6, r7, r8, r9].map .int)) false, .un, .un, .un, .un, .un, .un, .un, .un, .un] →
      eJoin (eLit (.str [])) (eLc (iAll (eSl (eVar 2) (oSome (eLit (.int 10))) (oSome (e2 gAdd (eLit (.int 10)) (eVar 0))))) (hName 5) tTrue (e2 gAt (eLit (.str [48, 49])) (eVar 5)) [5]) ρ = .ok ⟨.str (bits C), .pl, true⟩ := fun ρ hρ => by
    subst hρ
    refine join_bits (a := ⟨C.map .int, false, false⟩) ?_ rfl (by omega) cb (by simp) rfl
    rw [iAll_l (l := C.map .int) (m := .nw) (b := false) (by simp [cut_map, hcyc])]
    rfl
  have s3 : ∃ cy : List Nat, Cyc p cy ∧ (sIf (t2 cNinA (eLit (.str [49])) (eVar 4)) (sAsg 4 (e2 gMul (eLit (.str [49])) (eVar 0))) sNext) (fst p bands R [r5, r6, r7, r8, r9] (bits C) [.un, .un, .un, .un, .un, .un, .un, .un]) = .next (fst p bands R [r5, r6, r7, r8, r9] cy [.un, .un, .un, .un, .un, .un, .un, .un]) := by
    by_cases ho : 49 ∈ bits C
    · refine ⟨bits C, ⟨bits_ok C, by simpa using cl, ho⟩, ?_⟩
      rw [if_ap]
      simp [nin_s, ho]
    · refine ⟨(List.replicate p [49]).flatten, ones_cyc hp1, ?_⟩
      have e : gMul ⟨.str [49], .pl, true⟩ ⟨.int (p : Int), .pl, true⟩ = .ok ⟨.str (List.replicate p [49]).flatten, .pl, true⟩ := by
        rw [gMul_s (by simp; omega)]
        simp
      rw [if_ap]
      simp [nin_s, ho, e]
  obtain ⟨cy, hcy, e3⟩ := s3
  have hfin : ∀ ρ : En, ρ = fst p bands R [r5, r6, r7, r8, r9] cy [.un, .un, .un, .un, .un, .un, .un, .un] → ∃ d : D, ∃ m : Mk3, (sSeq (sIf (t2 cEq (e2 gAt (eVar 2) (eLit (.int 0))) (eLit (.int 4))) (sRet (eLst (aCons (eLit (.str [])) (aCons (e2 gMul (eLit (.str [49])) (eVar 0)) aNil)))) sNext)
    (sRet (eLst (aCons (eJoin (eLit (.str [])) (eLc (iAll (eSl (eVar 3) oNone (oSome (e2 gAt (eVar 2) (eLit (.int 3)))))) (hName 5) tTrue (e2 gAt (eLit (.str [48, 49])) (eVar 5)) [5])) (aCons (eVar 4) aNil))))) ρ = .ret ⟨d, m, true⟩ ∧ WLine p d := fun ρ hρ => by
    subst hρ
    by_cases h : r0 = 4
    · have hc := ones_cyc hp1
      have e : gMul ⟨.str [49], .pl, true⟩ ⟨.int (p : Int), .pl, true⟩ = .ok ⟨.str (List.replicate p [49]).flatten, .pl, true⟩ := by
        rw [gMul_s (by simp; omega)]
        simp
      refine ⟨.lst [.str [], .str (List.replicate p [49]).flatten], .nw, ?_, [], _, rfl, fun c hc => (by simp at hc), hc.b, by simp, hc.l, hc.o⟩
      simp [g0, cEq_i, h, e]
    · obtain ⟨n, hn⟩ : ∃ n : Nat, (n : Int) = r3 := ⟨r3.toNat, by omega⟩
      have hcut : cut [r5, r6, r7, r8, r9] none (some r3) = [r5, r6, r7, r8, r9].take n := by
        rw [← hn]
        exact cut_to _ (by simp; omega)
      have hbit : ∀ x ∈ [r5, r6, r7, r8, r9].take n, Bit x := fun x hx => by
        have := List.mem_of_mem_take hx
        simp at this
        obtain ⟨b5, b6, b7, b8, b9⟩ := hb5
        rcases this with rfl | rfl | rfl | rfl | rfl <;> assumption
      have hlen : ([r5, r6, r7, r8, r9].take n).length ≤ 5 := by rw [List.length_take]; exact Nat.min_le_right _ _
      have j := join_bits (j := 5) (it := iAll (eSl (eVar 3) oNone (oSome (e2 gAt (eVar 2) (eLit (.int 3)))))) (ρ := fst p bands R [r5, r6, r7, r8, r9] cy [.un, .un, .un, .un, .un, .un, .un, .un]) (l := [r5, r6, r7, r8, r9].take n) (a := ⟨([r5, r6, r7, r8, r9].take n).map .int, false, false⟩) (by
        rw [iAll_l (l := ([r5, r6, r7, r8, r9].take n).map .int) (m := .nw) (b := false) (by
          have e := cut_map D.int [r5, r6, r7, r8, r9] none (some r3)
          rw [hcut] at e
          simp only [List.map_cons, List.map_nil] at e
          simp [g3, e])]
        rfl) rfl (by omega) hbit (by simp) rfl
      refine ⟨.lst [.str (bits ([r5, r6, r7, r8, r9].take n)), .str cy], .nw, ?_, _, _, rfl, bits_ok _, hcy.b, by rw [bits_len]; omega, hcy.l, hcy.o⟩
      simp [g0, cEq_i, h, j]
  have hstart : g__law_fixed [.sh (.int p) true, .sh (.lst bands) false, .sh (.lst (R.map .int)) false, .un, .un, .un, .un, .un, .un, .un, .un, .un, .un] =
      (sSeq (sIf (tAnd' (t2 cLe (e2 gAt (eVar 2) (eLit (.int 0))) (eLit (.int 3))) (t2 cGt (e1 gLen (eVar 1)) (eLit (.int 0)))) (sSeq (sAsg 6 (e2 gAt (eVar 1) (e2 gModI (e1 gInt (e2 gAt (eVar 2) (eLit (.int 2)))) (e1 gLen (eVar 1)))))
    (sSeq (sAsg 7 (e2 gAt (e2 gAt (eVar 6) (e2 gModI (e1 gInt (e2 gAt (eVar 2) (eLit (.int 1)))) (eVar 0))) (eLit (.int 0))))
    (sSeq (sIf (t2 cInA (eLit (.str [49])) (eVar 7)) (sAsg 4 (eVar 7)) sNext)
    (sSeq (sAsg 8 (e2 gAt (eLst (aCons (eLit (.int 0)) (aCons (eLit (.int 0)) (aCons (eLit (.int 3)) (aCons (eLit (.int 5)) aNil))))) (e2 gAt (eVar 2) (eLit (.int 0)))))
    (sSeq (sOwn 9 (eLc (iR1 (eVar 8)) (hName 10) tTrue (e1 gInt (e2 (gC cEq) (e2 gAt (eVar 4) (e2 gModI (e1 gInt (eVar 10)) (eVar 0))) (eLit (.str [49])))) [10]))
    (sSeq (sFor (iR1 (e2 gAt (eLst (aCons (eLit (.int 0)) (aCons (eLit (.int 0)) (aCons (eLit (.int 1)) (aCons (eLit (.int 2)) aNil))))) (e2 gAt (eVar 2) (eLit (.int 0))))) (hName 11) b__law_fixed_1)
    (sRet (eLst (aCons (eJoin (eLit (.str [])) (eLc (iAll (eVar 9)) (hName 5) tTrue (e2 gAt (eLit (.str [48, 49])) (eVar 5)) [5])) (aCons (eVar 4) aNil)))))))))) sNext)
    (sSeq (sIf (t2 cEq (e2 gAt (eVar 2) (eLit (.int 0))) (eLit (.int 4))) (sRet (eLst (aCons (eLit (.str [])) (aCons (e2 gMul (eLit (.str [49])) (eVar 0)) aNil)))) sNext)
    (sRet (eLst (aCons (eJoin (eLit (.str [])) (eLc (iAll (eSl (eVar 3) oNone (oSome (e2 gAt (eVar 2) (eLit (.int 3)))))) (hName 5) tTrue (e2 gAt (eLit (.str [48, 49])) (eVar 5)) [5])) (aCons (eVar 4) aNil)))))) (fst p bands R [r5, r6, r7, r8, r9] cy [.un, .un, .un, .un, .un, .un, .un, .un]) := by
    unfold g__law_fixed
    refine seq_nx (ρ1 := [.sh (.int p) true, .sh (.lst bands) false, .sh (.lst (R.map .int)) false, .sh (.lst ([r5, r6, r7, r8, r9].map .int)) false, .un, .un, .un, .un, .un, .un, .un, .un, .un]) ?_ ?_
    · simp [cut_map, hB]
    · refine seq_nx (ρ1 := fst p bands R [r5, r6, r7, r8, r9] (bits C) [.un, .un, .un, .un, .un, .un, .un, .un]) ?_ (seq_nx e3 rfl)
      rw [asg_ap, s2 _ rfl]
      simp
  rw [hstart]
  have lb : gLen ⟨.lst bands, .pl, false⟩ = .ok ⟨.int bands.length, .pl, true⟩ := gLen_l
  by_cases h : r0 ≤ 3 ∧ 0 < bands.length
  rotate_left
  · refine (hfin _ rfl).imp fun d hd => hd.imp fun m hm => ⟨seq_nx ?_ hm.1, hm.2⟩
    rw [if_ap]
    by_cases h3 : r0 ≤ 3
    · have hb : ¬ 0 < bands.length := fun z => h ⟨h3, z⟩
      simp [g0, h3, lb, hb]
    · simp [g0, h3]
  obtain ⟨h3, hb⟩ := h
  have hbL : (0 : Int) < bands.length := by omega
  obtain ⟨bd, hbd1⟩ : ∃ bd, bands[(r2 % bands.length).toNat]? = some bd := ⟨_, List.getElem?_eq_getElem (by
    have := Int.emod_lt_of_pos r2 hbL
    have := Int.emod_nonneg r2 (show (bands.length : Int) ≠ 0 by omega)
    omega)⟩
  obtain ⟨rows, rfl, hrl, hrows⟩ := hbd bd (List.mem_of_getElem? hbd1)
  have hpL : (0 : Int) < p := by omega
  obtain ⟨row, hrow1⟩ : ∃ row, rows[(r1 % p).toNat]? = some row := ⟨_, List.getElem?_eq_getElem (by
    have := Int.emod_lt_of_pos r1 hpL
    have := Int.emod_nonneg r1 (show (p : Int) ≠ 0 by omega)
    omega)⟩
  obtain ⟨lo, hi, a, rfl, ll, lh, bl, bh, ba, hone⟩ := hrows row (List.mem_of_getElem? hrow1)
  have ea1 : gAt ⟨.lst bands, .pl, false⟩ ⟨.int (r2 % bands.length), .pl, true⟩ = .ok ⟨.lst rows, .pl, false⟩ := by
    rw [gAt_l (atI_nat (Int.emod_nonneg _ (by omega)) hbd1)]
    rfl
  have ea2 : gAt ⟨.lst rows, .pl, false⟩ ⟨.int (r1 % p), .pl, true⟩ = .ok ⟨.lst [.str (bits lo), .str [if a = 0 then 48 else 49], .str (bits hi)], .pl, false⟩ := by
    rw [gAt_l (atI_nat (Int.emod_nonneg _ (by omega)) hrow1)]
    rfl
  have ea3 : gAt ⟨.lst [.str (bits lo), .str [if a = 0 then 48 else 49], .str (bits hi)], .pl, false⟩ ⟨.int 0, .pl, true⟩ = .ok ⟨.str (bits lo), .pl, true⟩ := rfl
  -- the cycle again
  obtain ⟨cy', hcy', e5⟩ : ∃ cy' : List Nat, Cyc p cy' ∧ (sIf (t2 cInA (eLit (.str [49])) (eVar 7)) (sAsg 4 (eVar 7)) sNext) (fst p bands R [r5, r6, r7, r8, r9] cy [.un, .sh (.lst rows) false, .sh (.str (bits lo)) true, .un, .un, .un, .un, .un]) = .next (fst p bands R [r5, r6, r7, r8, r9] cy' [.un, .sh (.lst rows) false, .sh (.str (bits lo)) true, .un, .un, .un, .un, .un]) := by
    by_cases ho : 49 ∈ bits lo
    · refine ⟨bits lo, ⟨bits_ok _, by simpa using ll, ho⟩, ?_⟩
      rw [if_ap]
      simp [in_s, ho]
    · refine ⟨cy, hcy, ?_⟩
      rw [if_ap]
      simp [in_s, ho]
  obtain ⟨am, nk, ham0, ham1, hnk1, hnk2, eam, enk⟩ : ∃ (am : Int) (nk : Nat), 0 ≤ am ∧ am ≤ 5 ∧ (0 < nk → 1 ≤ am) ∧ nk ≤ 2 ∧ gAt ⟨.lst [.int 0, .int 0, .int 3, .int 5], .nw, true⟩ ⟨.int r0, .pl, true⟩ = .ok ⟨.int am, .pl, true⟩ ∧ gAt ⟨.lst [.int 0, .int 0, .int 1, .int 2], .nw, true⟩ ⟨.int r0, .pl, true⟩ = .ok ⟨.int nk, .pl, true⟩ := by
    have : r0 = 0 ∨ r0 = 1 ∨ r0 = 2 ∨ r0 = 3 := by omega
    rcases this with rfl | rfl | rfl | rfl
    · exact ⟨0, 0, by omega, by omega, by omega, by omega, rfl, rfl⟩
    · exact ⟨0, 0, by omega, by omega, by omega, by omega, rfl, rfl⟩
    · exact ⟨3, 1, by omega, by omega, by omega, by omega, rfl, rfl⟩
    · exact ⟨5, 2, by omega, by omega, by omega, by omega, rfl, rfl⟩
  obtain ⟨P, eP, lP, bP⟩ := lc_ints (j := 10) (it := iR1 (eVar 8)) (el := e1 gInt (e2 (gC cEq) (e2 gAt (eVar 4) (e2 gModI (e1 gInt (eVar 10)) (eVar 0))) (eLit (.str [49])))) (ρ := fst p bands R [r5, r6, r7, r8, r9] cy' [.un, .sh (.lst rows) false, .sh (.str (bits lo)) true, .sh (.int am) true, .un, .un, .un, .un]) am.toNat (fun _ y => Bit y) (by
    rw [iR1_at (n := am) (m := .pl) (b := true) (by simp) (by omega)]) (by omega) rfl (by simp) (fun c hc => by
    have q0 := Int.emod_nonneg (c : Int) (show (p : Int) ≠ 0 by omega)
    have q1 := Int.emod_lt_of_pos (c : Int) hpL
    have hl := hcy'.l
    obtain ⟨z, hz⟩ : ∃ z, cy'[((c : Int) % p).toNat]? = some z := ⟨_, List.getElem?_eq_getElem (by omega)⟩
    have ez : gAt ⟨.str cy', .pl, true⟩ ⟨.int ((c : Int) % p), .pl, true⟩ = .ok ⟨.str [z], .pl, true⟩ := gAt_s (atI_nat q0 hz) (by omega)
    have hz2 := bits_lt hcy'.b (List.mem_of_getElem? hz)
    refine ⟨if z = 49 then 1 else 0, ?_, ?_⟩
    · simp [gMod_i hpL, ez, cEq_s hz2 (show (49 : Nat) < 0x110000 by decide)]
    · by_cases h : z = 49 <;> simp [h, Bit])
  obtain ⟨P', x11, x12, eL, lP', bP'⟩ := fixed_loop (p := p) (bands := bands) (R := R) (B := [r5, r6, r7, r8, r9]) (cy := cy') (x5 := .un) (x6 := .sh (.lst rows) false) (x7 := .sh (.str (bits lo)) true) (x10 := .un) (x11 := .un) (x12 := .un) (am := am) (n := nk) ham0 (by omega) hnk1 (fun k hk => by
    have : k = 0 ∨ k = 1 := by omega
    rcases this with rfl | rfl
    · exact ⟨r3, hR3, h3z⟩
    · exact ⟨r4, hR4, h4⟩) (P := P) lP (mem_of_ix bP)
  have jP := join_bits (j := 5) (it := iAll (eVar 9)) (ρ := fst p bands R [r5, r6, r7, r8, r9] cy' [.un, .sh (.lst rows) false, .sh (.str (bits lo)) true, .sh (.int am) true, .ow (.lst (P'.map .int)) true, .un, x11, x12]) (l := P') (iAll_l (m := .bo) (b := true) (by simp)) rfl (by omega) bP' (by simp) rfl
  refine ⟨.lst [.str (bits P'), .str cy'], .nw, seq_ret ?_, _, _, rfl, bits_ok _, hcy'.b, by rw [bits_len]; omega, hcy'.l, hcy'.o⟩
  rw [if_ap]
  have econd : (tAnd' (t2 cLe (e2 gAt (eVar 2) (eLit (.int 0))) (eLit (.int 3))) (t2 cGt (e1 gLen (eVar 1)) (eLit (.int 0)))) (fst p bands R [r5, r6, r7, r8, r9] cy [.un, .un, .un, .un, .un, .un, .un, .un]) = .ok true := by simp [g0, h3, lb, hb]
  rw [econd, out_ok, if_pos rfl]
  refine seq_nx (ρ1 := fst p bands R [r5, r6, r7, r8, r9] cy [.un, .sh (.lst rows) false, .un, .un, .un, .un, .un, .un]) (by simp [g2, lb, gMod_i hbL, ea1]) ?_
  refine seq_nx (ρ1 := fst p bands R [r5, r6, r7, r8, r9] cy [.un, .sh (.lst rows) false, .sh (.str (bits lo)) true, .un, .un, .un, .un, .un]) (by simp [g1, gMod_i hpL, ea2, ea3]) ?_
  refine seq_nx e5 ?_
  refine seq_nx (ρ1 := fst p bands R [r5, r6, r7, r8, r9] cy' [.un, .sh (.lst rows) false, .sh (.str (bits lo)) true, .sh (.int am) true, .un, .un, .un, .un]) (by simp [g0, eam]) ?_
  refine seq_nx (ρ1 := fst p bands R [r5, r6, r7, r8, r9] cy' [.un, .sh (.lst rows) false, .sh (.str (bits lo)) true, .sh (.int am) true, .ow (.lst (P.map .int)) true, .un, .un, .un]) (by rw [own_ap, eP]; simp) ?_
  refine seq_nx (ρ1 := fst p bands R [r5, r6, r7, r8, r9] cy' [.un, .sh (.lst rows) false, .sh (.str (bits lo)) true, .sh (.int am) true, .ow (.lst (P'.map .int)) true, .un, x11, x12]) ?_ ?_
  · rw [for_ap, iR1_at (n := nk) (m := .pl) (b := true) (by simp [g0, enk]) (by omega), out_ok]
    simpa using eL
  · simp [jP]
end Pf
set_option maxHeartbeats 4000000
namespace Pf
open PySem L2 Ev
theorem cell_call (ns : List Int) (k : Int) (h0 : 0 ≤ k) (h1 : k ≤ 1000) (b b' : Bool) : ∃ c : Int, callR Φ__law_cell [⟨.lsk (ns.map .int), .pl, b⟩, ⟨.int k, .pl, b'⟩] [] = .ok ⟨.int c, .pl, true⟩ := by
  obtain ⟨c, h⟩ := cell_ok ns k h0 h1
  exact ⟨c, callR_new h⟩
theorem digits_call (sizes : List Int) (hs : ∀ s ∈ sizes, 0 < s ∧ s < 1073741824) (hl : sizes.length ≤ 10000) (cell : Int) (m : Mk3) (b b' : Bool) : ∃ ds : List Int, callR Φ__law_digits [⟨.int cell, .pl, b⟩, ⟨.lst (sizes.map .int), m, b'⟩] [] = .ok ⟨.lst (ds.map .int), .pl, true⟩ ∧ Dg ds sizes := by
  obtain ⟨ds, h, hd⟩ := digits_ok sizes hs hl cell
  exact ⟨ds, callR_new h, hd⟩
theorem dg_get {ds sizes : List Int} (h : Dg ds sizes) (i : Nat) {s : Int} (hs : sizes[i]? = some s) : ∃ x : Int, ds[i]? = some x ∧ 0 ≤ x ∧ x < s := by
  have hi := (List.getElem?_eq_some_iff.mp hs).1
  rw [← h.1] at hi
  exact ⟨_, List.getElem?_eq_getElem hi, h.2 i _ s (List.getElem?_eq_getElem hi) hs⟩
theorem dg_at {ds : List Int} {i : Nat} {x : Int} {m m' : Mk3} {b b' : Bool} (h : ds[i]? = some x) : gAt ⟨.lst (ds.map .int), m, b⟩ ⟨.int (i : Int), m', b'⟩ = .ok ⟨.int x, .pl, true⟩ := gAt_ints (by omega) (by simpa using h)
theorem per8 {x : Int} (h0 : 0 ≤ x) (h1 : x < 8) : ∃ p : Nat, 1 ≤ p ∧ p ≤ 4 ∧ gAt ⟨.lst [.int 2, .int 1, .int 2, .int 3, .int 2, .int 1, .int 3, .int 4], .nw, true⟩ ⟨.int x, .pl, true⟩ = .ok ⟨.int (p : Int), .pl, true⟩ := by
  have : x = 0 ∨ x = 1 ∨ x = 2 ∨ x = 3 ∨ x = 4 ∨ x = 5 ∨ x = 6 ∨ x = 7 := by omega
  rcases this with rfl | rfl | rfl | rfl | rfl | rfl | rfl | rfl
  · exact ⟨2, by omega, by omega, rfl⟩
  · exact ⟨1, by omega, by omega, rfl⟩
  · exact ⟨2, by omega, by omega, rfl⟩
  · exact ⟨3, by omega, by omega, rfl⟩
  · exact ⟨2, by omega, by omega, rfl⟩
  · exact ⟨1, by omega, by omega, rfl⟩
  · exact ⟨3, by omega, by omega, rfl⟩
  · exact ⟨4, by omega, by omega, rfl⟩
theorem amt8 {x : Int} (h0 : 0 ≤ x) (h1 : x < 8) : ∃ p : Nat, p ≤ 6 ∧ gAt ⟨.lst [.int 1, .int 2, .int 0, .int 3, .int 1, .int 2, .int 0, .int 6], .nw, true⟩ ⟨.int x, .pl, true⟩ = .ok ⟨.int (p : Int), .pl, true⟩ := by
  have : x = 0 ∨ x = 1 ∨ x = 2 ∨ x = 3 ∨ x = 4 ∨ x = 5 ∨ x = 6 ∨ x = 7 := by omega
  rcases this with rfl | rfl | rfl | rfl | rfl | rfl | rfl | rfl
  · exact ⟨1, by omega, rfl⟩
  · exact ⟨2, by omega, rfl⟩
  · exact ⟨0, by omega, rfl⟩
  · exact ⟨3, by omega, rfl⟩
  · exact ⟨1, by omega, rfl⟩
  · exact ⟨2, by omega, rfl⟩
  · exact ⟨0, by omega, rfl⟩
  · exact ⟨6, by omega, rfl⟩
theorem bsz_ev {p : Nat} (hp : p ≤ 4) (hp1 : 1 ≤ p) (x0 x1 x2 : SV) (r : En) : (e2 gAdd (e2 gAdd (eLst (aCons (eLit (.int 8)) aNil)) (e2 gMul (eLst (aCons (eLit (.int 3)) (aCons (eLit (.int 2)) aNil))) (e2 gMul (eVar 3) (eVar 3)))) (e2 gMul (eLst (aCons (eLit (.int 2)) aNil)) (eVar 3))) (x0 :: x1 :: x2 :: .sh (.int p) true :: r) = .ok ⟨.lst ((bsz p).map .int), .nw, true⟩ := by
  have : p = 1 ∨ p = 2 ∨ p = 3 ∨ p = 4 := by omega
  rcases this with rfl | rfl | rfl | rfl <;> rfl
theorem bsz_pos {p : Nat} (hp : p ≤ 4) (hp1 : 1 ≤ p) : (∀ s ∈ bsz p, 0 < s ∧ s < 1073741824) ∧ (bsz p).length ≤ 10000 := by
  have : p = 1 ∨ p = 2 ∨ p = 3 ∨ p = 4 := by omega
  rcases this with rfl | rfl | rfl | rfl <;> decide
/-- a band drawn -/
theorem draw_band {p : Nat} (hp : p ≤ 4) (hp1 : 1 ≤ p) (c : Int) : ∃ (ds : List Int) (d : D), callR Φ__law_digits [⟨.int c, .pl, true⟩, ⟨.lst ((bsz p).map .int), .pl, true⟩] [] = .ok ⟨.lst (ds.map .int), .pl, true⟩ ∧ callR Φ__law_band [⟨.int p, .pl, true⟩, ⟨.lst (ds.map .int), .pl, true⟩] [] = .ok ⟨d, .pl, true⟩ ∧ WBand p d := by
  obtain ⟨ds, e1, h1⟩ := digits_call (bsz p) (bsz_pos hp hp1).1 (bsz_pos hp hp1).2 c .pl true true
  obtain ⟨rows, e2, h2, h3⟩ := band_ok hp hp1 (bsz_row hp hp1 h1)
  exact ⟨ds, .lst rows, e1, callR_new e2, rows, rfl, h2, h3⟩
def six14 : List Int := (List.replicate 6 one14).flatten
theorem six_ev (ρ : En) (x0 x1 x2 x3 x4 x5 : SV) (r : En) : (e2 gAdd (e2 gAdd (eLst (aCons (eLit (.int 8)) (aCons (eLit (.int 4)) (aCons (eLit (.int 2)) (aCons (eLit (.int 5)) (aCons (eLit (.int 5)) aNil)))))) (e2 gMul (eLst (aCons (eLit (.int 2)) aNil)) (eLit (.int 5)))) (e2 gMul (eLst (aCons (eLit (.int 2)) aNil)) (eLit (.int 4)))) ρ = .ok ⟨.lst (one14.map .int), .nw, true⟩ ∧
    gMul ⟨.lst (one14.map .int), .pl, true⟩ ⟨.int 6, .pl, true⟩ = .ok ⟨.lst (six14.map .int), .nw, true⟩ := ⟨rfl, rfl⟩
/-- the k-th fourteen -/
theorem cut14 {ds : List Int} (h : Dg ds six14) {k : Nat} (hk : k < 6) : Dg (cut ds (some (14 * (k : Int))) (some (14 * (k : Int) + 14))) one14 := by
  have hl : ds.length = 84 := h.1
  have e : cut ds (some (14 * (k : Int))) (some (14 * (k : Int) + 14)) = (ds.drop (14 * k)).take 14 := by
    unfold cut
    have e1 : HT.sIx ds.length 0 (some (14 * (k : Int))) = 14 * k := by
      rw [show 14 * (k : Int) = ((14 * k : Nat) : Int) by simp, HT.sIx_nat]
      omega
    have e2 : HT.sIx ds.length ds.length (some (14 * (k : Int) + 14)) = 14 * k + 14 := by
      rw [show 14 * (k : Int) + 14 = ((14 * k + 14 : Nat) : Int) by simp, HT.sIx_nat]
      omega
    rw [e1, e2]
    congr 1
    omega
  rw [e]
  refine ⟨by rw [List.length_take, List.length_drop, hl]; show _ = 14; omega, fun i d s hd hs => ?_⟩
  have hi : i < 14 := (List.getElem?_eq_some_iff.mp hs).1
  rw [List.getElem?_take, if_pos hi, List.getElem?_drop] at hd
  refine h.2 (14 * k + i) d s hd ?_
  have key : ∀ k : Nat, k < 6 → ∀ i : Nat, i < 14 → six14[14 * k + i]? = one14[i]? := by decide
  rw [key k hk i hi]
  exact hs
end Pf
set_option maxHeartbeats 4000000
namespace Pf
open PySem L2 Ev
theorem family_ok (ns : List Int) (at_ : Int) (h0 : 0 ≤ at_) (h1 : at_ ≤ 900) : ∃ (d : D) (p : Nat) (fixed bands : List D), Φ__law_family [.lsk (ns.map .int), .int at_] = .ok (d, true) ∧ WData d p fixed bands := by
  obtain ⟨c1, hc1⟩ := cell_call ns at_ h0 (by omega) false true
  obtain ⟨c2, hc2⟩ := cell_call ns (at_ + 1) (by omega) (by omega) false true
  obtain ⟨c3, hc3⟩ := cell_call ns (at_ + 2) (by omega) (by omega) false true
  obtain ⟨c4, hc4⟩ := cell_call ns (at_ + 3) (by omega) (by omega) false true
  obtain ⟨S, hS, dS⟩ := digits_call [8, 6, 8] (by decide) (by decide) c1 .nw true true
  obtain ⟨s0, hs0, s00, s01⟩ := dg_get dS 0 rfl
  obtain ⟨s1, hs1, s10, s11⟩ := dg_get dS 1 rfl
  obtain ⟨s2, hs2, s20, s21⟩ := dg_get dS 2 rfl
  obtain ⟨p, hp1, hp, ep⟩ := per8 s00 s01
  obtain ⟨amt, ha6, eamt⟩ := amt8 s20 s21
  obtain ⟨B1, b1, eB1, eb1, wb1⟩ := draw_band hp hp1 c2
  obtain ⟨B2, b2, eB2, eb2, wb2⟩ := draw_band hp hp1 c3
  obtain ⟨F, eF, dF⟩ := digits_call six14 (by decide) (by decide) c4 .nw true true
  have a0 := fun {m : Mk3} => gAt_ints (m := m) (m' := .pl) (b := true) (b' := true) (i := 0) (by decide) hs0
  have a1 := fun {m : Mk3} => gAt_ints (m := m) (m' := .pl) (b := true) (b' := true) (i := 1) (by decide) hs1
  have a2 := fun {m : Mk3} => gAt_ints (m := m) (m' := .pl) (b := true) (b' := true) (i := 2) (by decide) hs2
  have hS' : callR Φ__law_digits [⟨.int c1, .pl, true⟩, ⟨.lst [.int 8, .int 6, .int 8], .nw, true⟩] [] = .ok ⟨.lst (S.map .int), .pl, true⟩ := hS
  let ρ0 : En := [.sh (.lsk (ns.map .int)) false, .sh (.int at_) true, .sh (.lst (S.map .int)) true, .sh (.int p) true, .sh (.lst ((bsz p).map .int)) true]
  obtain ⟨bands, hbl, hbw, hbne, e5⟩ : ∃ bands : List D, bands.length ≤ 2 ∧ (∀ d ∈ bands, WBand p d) ∧ bands ≠ [] ∧ (sIf (t2 cGe (e2 gAt (eVar 2) (eLit (.int 1))) (eLit (.int 4))) (sApp 5 (eCall Φ__law_band 2 [] (aCons (eVar 3) (aCons (eCall Φ__law_digits 2 [] (aCons (eCall Φ__law_cell 2 [] (aCons (eVar 0) (aCons (e2 gAdd (eVar 1) (eLit (.int 2))) aNil))) (aCons (eVar 4) aNil))) aNil)))) sNext)
      [.sh (.lsk (ns.map .int)) false, .sh (.int at_) true, .sh (.lst (S.map .int)) true, .sh (.int p) true, .sh (.lst ((bsz p).map .int)) true, .ow (.lst [b1]) true, .un, .un, .un, .un] =
      .next [.sh (.lsk (ns.map .int)) false, .sh (.int at_) true, .sh (.lst (S.map .int)) true, .sh (.int p) true, .sh (.lst ((bsz p).map .int)) true, .ow (.lst bands) true, .un, .un, .un, .un] := by
    by_cases h : 4 ≤ s1
    · refine ⟨[b1, b2], by simp, fun d hd => ?_, by simp, ?_⟩
      · rcases List.mem_cons.mp hd with z | z
        · subst z; exact wb1
        · rw [List.mem_singleton.mp z]; exact wb2
      · rw [if_ap]
        simp [a1, h, sApp, hc3, eB2, eb2]
    · refine ⟨[b1], by simp, fun d hd => by rw [List.mem_singleton.mp hd]; exact wb1, by simp, ?_⟩
      rw [if_ap]
      simp [a1, h]
  obtain ⟨fixed, ef, lf, wf⟩ := lcF_pred (h := hName 9) (b := true) (t := tTrue) (el := (eCall Φ__law_fixed 3 [] (aCons (eVar 3) (aCons (eVar 5) (aCons (eSl (eVar 7) (oSome (e2 gMul (eLit (.int 14)) (eVar 9))) (oSome (e2 gAdd (e2 gMul (eLit (.int 14)) (eVar 9)) (eLit (.int 14))))) aNil)))))
    (ρ := wipeE [.sh (.lsk (ns.map .int)) false, .sh (.int at_) true, .sh (.lst (S.map .int)) true, .sh (.int p) true, .sh (.lst ((bsz p).map .int)) true, .ow (.lst bands) true, .sh (.lst (one14.map .int)) true, .sh (.lst (F.map .int)) true, .un, .un] [9]) (ds := rng 0 amt) (fun _ d => WLine p d) (fun i d hd => by
      obtain ⟨hi, rfl⟩ := rng_get hd
      have hc := cut14 dF (show i < 6 by omega)
      obtain ⟨d, ed, wd⟩ := fixed_ok hp hp1 (f14_of (p := p) hc) hbw (by omega)
      refine ⟨[.sh (.lsk (ns.map .int)) false, .sh (.int at_) true, .sh (.lst (S.map .int)) true, .sh (.int p) true, .sh (.lst ((bsz p).map .int)) true, .ow (.lst bands) true, .sh (.lst (one14.map .int)) true, .sh (.lst (F.map .int)) true, .un, .sh (.int i) true], d, .pl, true, by simp [wipeE], rfl, ?_, rfl, rfl, wd⟩
      have m1 : (14 : Int).natAbs < 18446744073709551616 ∨ (i : Int).natAbs < 18446744073709551616 := by left; decide
      have ec : callR Φ__law_fixed [⟨.int p, .pl, true⟩, ⟨.lst bands, .bo, true⟩, ⟨.lst ((cut F (some (14 * (i : Int))) (some (14 * (i : Int) + 14))).map .int), .nw, true⟩] [] = .ok ⟨d, .pl, true⟩ := callR_new ed
      simp [gMul_i m1, cut_map, ec])
  refine ⟨.lst [.int p, .lst fixed, .lst bands], p, fixed, bands, bodyR_ret (g := g__law_family) (n := 10) (ds := [.lsk (ns.map .int), .int at_]) (a := ⟨.lst [.int p, .lst fixed, .lst bands], .nw, true⟩) ?_, rfl, hp1, hp, mem_of_ix wf, hbw, by rw [lf, rng_len]; exact ha6, hbl, fun z => absurd z hbne⟩
  show g__law_family [.sh (.lsk (ns.map .int)) false, .sh (.int at_) true, .un, .un, .un, .un, .un, .un, .un, .un] = _
  unfold g__law_family
  refine seq_nx (ρ1 := [.sh (.lsk (ns.map .int)) false, .sh (.int at_) true, .sh (.lst (S.map .int)) true, .un, .un, .un, .un, .un, .un, .un]) (by simp [hc1, hS']) ?_
  refine seq_nx (ρ1 := [.sh (.lsk (ns.map .int)) false, .sh (.int at_) true, .sh (.lst (S.map .int)) true, .sh (.int p) true, .un, .un, .un, .un, .un, .un]) (by simp [a0, ep]) ?_
  refine seq_nx (ρ1 := [.sh (.lsk (ns.map .int)) false, .sh (.int at_) true, .sh (.lst (S.map .int)) true, .sh (.int p) true, .sh (.lst ((bsz p).map .int)) true, .un, .un, .un, .un, .un]) (by rw [asg_ap, bsz_ev hp hp1]; simp) ?_
  refine seq_nx (ρ1 := [.sh (.lsk (ns.map .int)) false, .sh (.int at_) true, .sh (.lst (S.map .int)) true, .sh (.int p) true, .sh (.lst ((bsz p).map .int)) true, .ow (.lst [b1]) true, .un, .un, .un, .un]) (by simp [hc2, eB1, eb1]) ?_
  refine seq_nx e5 ?_
  refine seq_nx (ρ1 := [.sh (.lsk (ns.map .int)) false, .sh (.int at_) true, .sh (.lst (S.map .int)) true, .sh (.int p) true, .sh (.lst ((bsz p).map .int)) true, .ow (.lst bands) true, .sh (.lst (one14.map .int)) true, .un, .un, .un]) rfl ?_
  refine seq_nx (ρ1 := [.sh (.lsk (ns.map .int)) false, .sh (.int at_) true, .sh (.lst (S.map .int)) true, .sh (.int p) true, .sh (.lst ((bsz p).map .int)) true, .ow (.lst bands) true, .sh (.lst (one14.map .int)) true, .sh (.lst (F.map .int)) true, .un, .un]) ?_ ?_
  · have e6 : gMul ⟨.lst (one14.map .int), .pl, true⟩ ⟨.int 6, .pl, true⟩ = .ok ⟨.lst (six14.map .int), .nw, true⟩ := rfl
    simp [hc4, e6, eF]
  · have hr : iR1 (e2 gAt (eLst (aCons (eLit (.int 1)) (aCons (eLit (.int 2)) (aCons (eLit (.int 0)) (aCons (eLit (.int 3)) (aCons (eLit (.int 1)) (aCons (eLit (.int 2)) (aCons (eLit (.int 0)) (aCons (eLit (.int 6)) aNil))))))))) (e2 gAt (eVar 2) (eLit (.int 2)))) [.sh (.lsk (ns.map .int)) false, .sh (.int at_) true, .sh (.lst (S.map .int)) true, .sh (.int p) true, .sh (.lst ((bsz p).map .int)) true, .ow (.lst bands) true, .sh (.lst (one14.map .int)) true, .sh (.lst (F.map .int)) true, .un, .un] = .ok ⟨rng 0 amt, true, false⟩ := by
      rw [iR1_at (n := amt) (m := .pl) (b := true) (by simp [a2, eamt]) (by omega)]
      simp
    refine seq_nx (ρ1 := [.sh (.lsk (ns.map .int)) false, .sh (.int at_) true, .sh (.lst (S.map .int)) true, .sh (.int p) true, .sh (.lst ((bsz p).map .int)) true, .ow (.lst bands) true, .sh (.lst (one14.map .int)) true, .sh (.lst (F.map .int)) true, .sh (.lst fixed) true, .un]) ?_ ?_
    · rw [asg_ap, lc_at hr rfl (by simp; omega) ef]
      simp
    · simp [sFz]
end Pf
set_option maxHeartbeats 4000000
namespace Pf
open PySem L2 Ev
def lsz : List Int := (List.replicate 6 [6, 8]).flatten ++ List.replicate 36 2
theorem lsz_a : ∀ k : Nat, k < 6 → lsz[2 * k]? = some 6 ∧ lsz[2 * k + 1]? = some 8 := by decide
theorem lsz_b : ∀ j : Nat, j < 36 → lsz[12 + j]? = some 2 := by decide
/-- a menu of cycles -/
def Menu (p : Nat) (l : List D) : Prop := l ≠ [] ∧ l.length ≤ 8 ∧ ∀ d ∈ l, ∃ c : List Nat, d = .str c ∧ Cyc p c
theorem bits6 {R : List Int} (hR : Dg R lsz) {k : Nat} (hk : k < 6) : (cut R (some (12 + 6 * (k : Int))) (some (18 + 6 * (k : Int)))).length = 6 ∧ ∀ x ∈ cut R (some (12 + 6 * (k : Int))) (some (18 + 6 * (k : Int))), Bit x := by
  have hl : R.length = 48 := hR.1
  have e : cut R (some (12 + 6 * (k : Int))) (some (18 + 6 * (k : Int))) = (R.drop (12 + 6 * k)).take 6 := by
    unfold cut
    have e1 : HT.sIx R.length 0 (some (12 + 6 * (k : Int))) = 12 + 6 * k := by
      rw [show 12 + 6 * (k : Int) = ((12 + 6 * k : Nat) : Int) by simp, HT.sIx_nat]
      omega
    have e2 : HT.sIx R.length R.length (some (18 + 6 * (k : Int))) = 18 + 6 * k := by
      rw [show 18 + 6 * (k : Int) = ((18 + 6 * k : Nat) : Int) by simp, HT.sIx_nat]
      omega
    rw [e1, e2]
    congr 1
    omega
  rw [e]
  refine ⟨by rw [List.length_take, List.length_drop, hl]; omega, mem_of_ix fun i x hx => ?_⟩
  have hi : i < 6 := by
    have := (List.getElem?_eq_some_iff.mp hx).1
    rw [List.length_take] at this
    omega
  rw [List.getElem?_take, if_pos hi, List.getElem?_drop] at hx
  have h2 := lsz_b (6 * k + i) (by omega)
  rw [show 12 + (6 * k + i) = 12 + 6 * k + i by omega] at h2
  have := hR.2 _ x 2 hx h2
  unfold Bit
  omega
theorem bit_at {R : List Int} (hR : Dg R lsz) {j : Nat} (hj : j < 36) : ∃ x, R[12 + j]? = some x ∧ Bit x := by
  obtain ⟨x, h1, h2, h3⟩ := dg_get hR _ (lsz_b j hj)
  exact ⟨x, h1, by unfold Bit; omega⟩
abbrev lstS (ns : List Int) (at_ up : Int) (S : List Int) (p : Nat) (am : Int) (menu : List D) (R : List Int) (fixed : List D) (r : List SV) : En :=
  .sh (.lsk (ns.map .int)) false :: .sh (.int at_) true :: .sh (.int up) true :: .sh (.lst (S.map .int)) true :: .sh (.int p) true :: .sh (.int am) true :: .sh (.lst menu) true :: .sh (.lst (R.map .int)) true :: .ow (.lst fixed) true :: r
theorem list_row {ns : List Int} {at_ up : Int} {S : List Int} {p : Nat} {am : Int} {menu : List D} {R : List Int} {fixed : List D} {s1 : Int} (hS : S[1]? = some s1) (hM : Menu p menu) (hR : Dg R lsz) (hf : fixed.length < 1000) {k : Nat} (hk : k < 6) {x10 x11 x12 : SV} (h11 : isOw [x11] 0 = false) (h12 : isOw [x12] 0 = false) :
    ∃ (d : D) (y10 : SV), b__law_list_1 (lstS ns at_ up S p am menu R fixed [.sh (.int k) true, x10, x11, x12]) = .next (lstS ns at_ up S p am menu R (fixed ++ [d]) [.sh (.int k) true, y10, x11, x12]) ∧ WLine p d := by
  obtain ⟨l6, b6⟩ := bits6 hR hk
  obtain ⟨ra, hra, ra0, ra1⟩ := dg_get hR _ (lsz_a k hk).1
  obtain ⟨rb, hrb, rb0, rb1⟩ := dg_get hR _ (lsz_a k hk).2
  have m6 : (6 : Int).natAbs < 18446744073709551616 ∨ (k : Int).natAbs < 18446744073709551616 := by left; decide
  have m2 : (2 : Int).natAbs < 18446744073709551616 ∨ (k : Int).natAbs < 18446744073709551616 := by left; decide
  generalize hcut : cut R (some (12 + 6 * (k : Int))) (some (18 + 6 * (k : Int))) = B at l6 b6
  have st1 : (sAsg 10 (eSl (eVar 7) (oSome (e2 gAdd (eLit (.int 12)) (e2 gMul (eLit (.int 6)) (eVar 9)))) (oSome (e2 gAdd (eLit (.int 18)) (e2 gMul (eLit (.int 6)) (eVar 9)))))) (lstS ns at_ up S p am menu R fixed [.sh (.int k) true, x10, x11, x12]) = .next (lstS ns at_ up S p am menu R fixed [.sh (.int k) true, .sh (.lst (B.map .int)) true, x11, x12]) := by
    simp [gMul_i m6, cut_map, hcut]
  have gs1 : gAt ⟨.lst (S.map .int), .pl, true⟩ ⟨.int 1, .pl, true⟩ = .ok ⟨.int s1, .pl, true⟩ := gAt_ints (by decide) hS
  obtain ⟨B', l6', b6', st2⟩ : ∃ B' : List Int, B'.length = 6 ∧ (∀ x ∈ B', Bit x) ∧ (sIf (tAnd' (t2 cEq (e2 gModI (eVar 9) (eLit (.int 3))) (eLit (.int 1))) (t2 cLt (e2 gModI (e2 gAt (eVar 3) (eLit (.int 1))) (eLit (.int 5))) (eLit (.int 3)))) (sAsg 10 (eLc (iR1 (eLit (.int 6))) (hName 11) tTrue (e1 gInt (e2 (gC cGt) (e2 gAdd (e2 gAt (eVar 7) (e2 gAdd (eLit (.int 12)) (eVar 11))) (e2 gAt (eVar 7) (e2 gAdd (eLit (.int 17)) (eVar 11)))) (eLit (.int 0)))) [11])) sNext) (lstS ns at_ up S p am menu R fixed [.sh (.int k) true, .sh (.lst (B.map .int)) true, x11, x12]) = .next (lstS ns at_ up S p am menu R fixed [.sh (.int k) true, .sh (.lst (B'.map .int)) true, x11, x12]) := by
    by_cases hc : (k : Int) % 3 = 1 ∧ s1 % 5 < 3
    · obtain ⟨Q, eQ, lQ, bQ⟩ := lc_ints (j := 11) (it := iR1 (eLit (.int 6))) (el := e1 gInt (e2 (gC cGt) (e2 gAdd (e2 gAt (eVar 7) (e2 gAdd (eLit (.int 12)) (eVar 11))) (e2 gAt (eVar 7) (e2 gAdd (eLit (.int 17)) (eVar 11)))) (eLit (.int 0)))) (ρ := lstS ns at_ up S p am menu R fixed [.sh (.int k) true, .sh (.lst (B.map .int)) true, x11, x12]) 6 (fun _ y => Bit y) (by
          rw [iR1_at (n := 6) (m := .pl) (b := true) (by simp) (by omega)]
          rfl) (by omega) (by cases x11 <;> first | rfl | cases h11) (by simp) (fun c hc => by
          obtain ⟨u, hu, bu⟩ := bit_at hR (show c < 36 by omega)
          obtain ⟨w, hw, bw⟩ := bit_at hR (show 5 + c < 36 by omega)
          have eu : gAt ⟨.lst (R.map .int), .pl, true⟩ ⟨.int (12 + (c : Int)), .pl, true⟩ = .ok ⟨.int u, .pl, true⟩ := gAt_ints (by omega) (by rw [show (12 + (c : Int)).toNat = 12 + c by omega]; exact hu)
          have ew : gAt ⟨.lst (R.map .int), .pl, true⟩ ⟨.int (17 + (c : Int)), .pl, true⟩ = .ok ⟨.int w, .pl, true⟩ := gAt_ints (by omega) (by rw [show (17 + (c : Int)).toNat = 12 + (5 + c) by omega]; exact hw)
          refine ⟨if 0 < u + w then 1 else 0, ?_, ?_⟩
          · simp [eu, ew]
          · by_cases h : 0 < u + w <;> simp [h, Bit])
      refine ⟨Q, lQ, mem_of_ix bQ, ?_⟩
      have econd : (tAnd' (t2 cEq (e2 gModI (eVar 9) (eLit (.int 3))) (eLit (.int 1))) (t2 cLt (e2 gModI (e2 gAt (eVar 3) (eLit (.int 1))) (eLit (.int 5))) (eLit (.int 3)))) (lstS ns at_ up S p am menu R fixed [.sh (.int k) true, .sh (.lst (B.map .int)) true, x11, x12]) = .ok true := by
        simp [gMod_i, cEq_i, gs1, hc.1, hc.2]
      rw [if_ap, econd, out_ok, if_pos rfl, asg_ap, eQ]
      simp
    · refine ⟨B, l6, b6, ?_⟩
      have econd : (tAnd' (t2 cEq (e2 gModI (eVar 9) (eLit (.int 3))) (eLit (.int 1))) (t2 cLt (e2 gModI (e2 gAt (eVar 3) (eLit (.int 1))) (eLit (.int 5))) (eLit (.int 3)))) (lstS ns at_ up S p am menu R fixed [.sh (.int k) true, .sh (.lst (B.map .int)) true, x11, x12]) = .ok false := by
        by_cases h1 : (k : Int) % 3 = 1
        · have h2 : ¬ s1 % 5 < 3 := fun z => hc ⟨h1, z⟩
          simp [gMod_i, cEq_i, gs1, h1, h2]
        · simp [gMod_i, cEq_i, h1]
      rw [if_ap, econd, out_ok, if_neg (by decide)]
      rfl
  obtain ⟨n, hn⟩ : ∃ n : Nat, (n : Int) = ra := ⟨ra.toNat, by omega⟩
  have hcut2 : cut B' none (some ra) = B'.take n := by
    rw [← hn]
    exact cut_to _ (by omega)
  have ga : gAt ⟨.lst (R.map .int), .pl, true⟩ ⟨.int (2 * (k : Int)), .pl, true⟩ = .ok ⟨.int ra, .pl, true⟩ := gAt_ints (by omega) (by rw [show (2 * (k : Int)).toNat = 2 * k by omega]; exact hra)
  have gb : gAt ⟨.lst (R.map .int), .pl, true⟩ ⟨.int (2 * (k : Int) + 1), .pl, true⟩ = .ok ⟨.int rb, .pl, true⟩ := gAt_ints (by omega) (by rw [show (2 * (k : Int) + 1).toNat = 2 * k + 1 by omega]; exact hrb)
  have hlen : (B'.take n).length ≤ 6 := by rw [List.length_take]; omega
  have j := join_bits (j := 12) (it := iAll (eSl (eVar 10) oNone (oSome (e2 gAt (eVar 7) (e2 gMul (eLit (.int 2)) (eVar 9)))))) (ρ := lstS ns at_ up S p am menu R fixed [.sh (.int k) true, .sh (.lst (B'.map .int)) true, x11, x12]) (l := B'.take n) (a := ⟨(B'.take n).map .int, true, false⟩) (by
    rw [iAll_l (l := (B'.take n).map .int) (m := .nw) (b := true) (by simp [gMul_i m2, ga, cut_map, hcut2])]
    rfl) rfl (by omega) (fun x hx => b6' x (List.mem_of_mem_take hx)) (by simp) (by cases x12 <;> first | rfl | cases h12)
  obtain ⟨hM0, hM8, hMc⟩ := hM
  have hmL : (0 : Int) < menu.length := by
    cases menu with
    | nil => exact absurd rfl hM0
    | cons a l => simp
  obtain ⟨md, hmd⟩ : ∃ md, menu[(rb % menu.length).toNat]? = some md := ⟨_, List.getElem?_eq_getElem (by
    have := Int.emod_lt_of_pos rb hmL
    have := Int.emod_nonneg rb (show (menu.length : Int) ≠ 0 by omega)
    omega)⟩
  obtain ⟨cy, rfl, hcy⟩ := hMc md (List.mem_of_getElem? hmd)
  have gm : gAt ⟨.lst menu, .pl, true⟩ ⟨.int (rb % menu.length), .pl, true⟩ = .ok ⟨.str cy, .pl, true⟩ := by
    rw [gAt_l (atI_nat (Int.emod_nonneg _ (by omega)) hmd)]
    rfl
  refine ⟨.lst [.str (bits (B'.take n)), .str cy], .sh (.lst (B'.map .int)) true, ?_, _, _, rfl, bits_ok _, hcy.b, by rw [bits_len]; exact hlen, hcy.l, hcy.o⟩
  unfold b__law_list_1
  refine seq_nx st1 (seq_nx st2 ?_)
  have hl : fixed.length < 1000000 := by omega
  simp [sApp, j, gMul_i m2, gb, gLen_l, gMod_i hmL, gm, hl]
end Pf
set_option maxHeartbeats 4000000
namespace Pf
open PySem L2 Ev
def menus : List D := [.lst [.str [49]], .lst [.str [49, 48], .str [48, 49], .str [49, 49], .str [49, 48], .str [48, 49]], .lst [.str [49, 49, 48], .str [48, 49, 49], .str [49, 48, 49], .str [49, 48, 48], .str [48, 49, 48], .str [48, 48, 49]],
  .lst [.str [49, 49, 48, 48], .str [48, 48, 49, 49], .str [49, 48, 49, 48], .str [48, 49, 48, 49], .str [48, 49, 49, 49], .str [49, 48, 49, 49], .str [49, 49, 49, 48], .str [49, 48, 48, 48]]]
def cycB (p : Nat) (d : D) : Bool := match d with
  | .str c => c.all (fun x => x == 48 || x == 49) && c.length == p && c.contains 49
  | _ => false
theorem cycB_ok {p : Nat} {d : D} (h : cycB p d = true) : ∃ c : List Nat, d = .str c ∧ Cyc p c := by
  unfold cycB at h
  split at h
  · rename_i c
    simp only [Bool.and_eq_true, List.all_eq_true, Bool.or_eq_true, beq_iff_eq, List.contains_iff_mem] at h
    exact ⟨c, rfl, fun x hx => h.1.1 x hx, h.1.2, h.2⟩
  · cases h
theorem menu_ok {p : Nat} (hp : p ≤ 4) (hp1 : 1 ≤ p) : ∃ l : List D, gAt ⟨.lst menus, .nw, true⟩ ⟨.int ((p : Int) - 1), .pl, true⟩ = .ok ⟨.lst l, .pl, true⟩ ∧ Menu p l := by
  have : p = 1 ∨ p = 2 ∨ p = 3 ∨ p = 4 := by omega
  rcases this with rfl | rfl | rfl | rfl
  · exact ⟨_, rfl, by simp, by simp, fun d hd => cycB_ok (by simp at hd; rw [hd]; rfl)⟩
  · exact ⟨_, rfl, by simp, by simp, fun d hd => cycB_ok (by simp at hd; rcases hd with rfl | rfl | rfl | rfl | rfl <;> rfl)⟩
  · exact ⟨_, rfl, by simp, by simp, fun d hd => cycB_ok (by simp at hd; rcases hd with rfl | rfl | rfl | rfl | rfl | rfl <;> rfl)⟩
  · exact ⟨_, rfl, by simp, by simp, fun d hd => cycB_ok (by simp at hd; rcases hd with rfl | rfl | rfl | rfl | rfl | rfl | rfl | rfl <;> rfl)⟩
theorem per8b {x : Int} (h0 : 0 ≤ x) (h1 : x < 8) : ∃ p : Nat, 1 ≤ p ∧ p ≤ 4 ∧ gAt ⟨.lst [.int 2, .int 2, .int 2, .int 3, .int 1, .int 2, .int 3, .int 4], .nw, true⟩ ⟨.int x, .pl, true⟩ = .ok ⟨.int (p : Int), .pl, true⟩ := by
  have : x = 0 ∨ x = 1 ∨ x = 2 ∨ x = 3 ∨ x = 4 ∨ x = 5 ∨ x = 6 ∨ x = 7 := by omega
  rcases this with rfl | rfl | rfl | rfl | rfl | rfl | rfl | rfl
  · exact ⟨2, by omega, by omega, rfl⟩
  · exact ⟨2, by omega, by omega, rfl⟩
  · exact ⟨2, by omega, by omega, rfl⟩
  · exact ⟨3, by omega, by omega, rfl⟩
  · exact ⟨1, by omega, by omega, rfl⟩
  · exact ⟨2, by omega, by omega, rfl⟩
  · exact ⟨3, by omega, by omega, rfl⟩
  · exact ⟨4, by omega, by omega, rfl⟩
theorem list_ok (ns : List Int) (at_ up : Int) (h0 : 0 ≤ at_) (h1 : at_ ≤ 900) (hu : 2 ≤ up) (hu6 : up ≤ 6) : ∃ (d : D) (p : Nat) (fixed : List D), Φ__law_list [.lsk (ns.map .int), .int at_, .int up] = .ok (d, true) ∧ WData d p fixed [] ∧ 2 ≤ fixed.length ∧ fixed.length ≤ up := by
  obtain ⟨c1, hc1⟩ := cell_call ns at_ h0 (by omega) false true
  obtain ⟨c2, hc2⟩ := cell_call ns (at_ + 1) (by omega) (by omega) false true
  obtain ⟨S, hS, dS⟩ := digits_call [8, 60] (by decide) (by decide) c1 .nw true true
  obtain ⟨s0, hs0, s00, s01⟩ := dg_get dS 0 rfl
  obtain ⟨s1, hs1, s10, s11⟩ := dg_get dS 1 rfl
  obtain ⟨p, hp1, hp, ep⟩ := per8b s00 s01
  obtain ⟨menu, em, hM⟩ := menu_ok hp hp1
  obtain ⟨R, eR, dR⟩ := digits_call lsz (by decide) (by decide) c2 .nw true true
  have a0 := fun {m : Mk3} => gAt_ints (m := m) (m' := .pl) (b := true) (b' := true) (i := 0) (by decide) hs0
  have a1 := fun {m : Mk3} => gAt_ints (m := m) (m' := .pl) (b := true) (b' := true) (i := 1) (by decide) hs1
  have hS' : callR Φ__law_digits [⟨.int c1, .pl, true⟩, ⟨.lst [.int 8, .int 60], .nw, true⟩] [] = .ok ⟨.lst (S.map .int), .pl, true⟩ := hS
  have emx : (if up - 1 > 1 then up - 1 else 1) = up - 1 := by split <;> omega
  have hmod : 0 < up - 1 := by omega
  have q0 := Int.emod_nonneg (s1 / 5) (show up - 1 ≠ 0 by omega)
  have q1 := Int.emod_lt_of_pos (s1 / 5) hmod
  generalize hamt : 2 + s1 / 5 % (up - 1) = am
  obtain ⟨A, hA⟩ : ∃ A : Nat, (A : Int) = am := ⟨am.toNat, by omega⟩
  obtain ⟨ρ, eL, fixed, x9, x10, rfl, lF, wF⟩ := loop_pred (b := true) (h := hName 9) (g := b__law_list_1) (fun k ρ => ∃ (fixed : List D) (x9 x10 : SV), ρ = lstS ns at_ up S p am menu R fixed [x9, x10, .un, .un] ∧ fixed.length = k ∧ ∀ d ∈ fixed, WLine p d) (rng 0 A) 0 (lstS ns at_ up S p am menu R [] [.un, .un, .un, .un]) ⟨[], .un, .un, rfl, rfl, fun d h => by simp at h⟩ (fun i d ρ hd ⟨fixed, x9, x10, hρ, h1, h2⟩ => by
    subst hρ
    obtain ⟨hi, rfl⟩ := rng_get hd
    rw [Nat.zero_add] at h1 ⊢
    obtain ⟨d, y10, e, w⟩ := list_row (ns := ns) (at_ := at_) (up := up) (S := S) (p := p) (am := am) (menu := menu) (fixed := fixed) hs1 hM dR (by omega) (k := i) (by omega) (x10 := x10) (x11 := .un) (x12 := .un) rfl rfl
    refine ⟨lstS ns at_ up S p am menu R fixed [.sh (.int i) true, x10, .un, .un], _, by simp, .inl e, fixed ++ [d], _, y10, rfl, by simp [h1], fun z hz => ?_⟩
    rcases List.mem_append.mp hz with h | h
    · exact h2 z h
    · rw [List.mem_singleton.mp h]; exact w)
  rw [rng_len, Nat.zero_add] at lF
  refine ⟨.lst [.int p, .lst fixed, .lst []], p, fixed, bodyR_ret (g := g__law_list) (n := 13) (ds := [.lsk (ns.map .int), .int at_, .int up]) (a := ⟨.lst [.int p, .lst fixed, .lst []], .nw, true⟩) ?_, ⟨rfl, hp1, hp, wF, fun d h => by simp at h, by omega, by simp, fun _ z => by rw [z] at lF; simp at lF; omega⟩, by omega, by omega⟩
  show g__law_list [.sh (.lsk (ns.map .int)) false, .sh (.int at_) true, .sh (.int up) true, .un, .un, .un, .un, .un, .un, .un, .un, .un, .un] = _
  unfold g__law_list
  refine seq_nx (ρ1 := [.sh (.lsk (ns.map .int)) false, .sh (.int at_) true, .sh (.int up) true, .sh (.lst (S.map .int)) true, .un, .un, .un, .un, .un, .un, .un, .un, .un]) (by simp [hc1, hS']) ?_
  refine seq_nx (ρ1 := [.sh (.lsk (ns.map .int)) false, .sh (.int at_) true, .sh (.int up) true, .sh (.lst (S.map .int)) true, .sh (.int p) true, .un, .un, .un, .un, .un, .un, .un, .un]) (by simp [a0, ep]) ?_
  refine seq_nx (ρ1 := [.sh (.lsk (ns.map .int)) false, .sh (.int at_) true, .sh (.int up) true, .sh (.lst (S.map .int)) true, .sh (.int p) true, .sh (.int am) true, .un, .un, .un, .un, .un, .un, .un]) (by simp [a1, gMax_i, emx, gMod_i hmod, gDiv_i, hamt]) ?_
  refine seq_nx (ρ1 := [.sh (.lsk (ns.map .int)) false, .sh (.int at_) true, .sh (.int up) true, .sh (.lst (S.map .int)) true, .sh (.int p) true, .sh (.int am) true, .sh (.lst menu) true, .un, .un, .un, .un, .un, .un]) ?_ ?_
  · have em' := em
    unfold menus at em'
    simp [em']
  refine seq_nx (ρ1 := [.sh (.lsk (ns.map .int)) false, .sh (.int at_) true, .sh (.int up) true, .sh (.lst (S.map .int)) true, .sh (.int p) true, .sh (.int am) true, .sh (.lst menu) true, .sh (.lst (R.map .int)) true, .un, .un, .un, .un, .un]) ?_ ?_
  · have e6 : (e2 gAdd (e2 gMul (eLst (aCons (eLit (.int 6)) (aCons (eLit (.int 8)) aNil))) (eLit (.int 6))) (e2 gMul (eLst (aCons (eLit (.int 2)) aNil)) (eLit (.int 36)))) [.sh (.lsk (ns.map .int)) false, .sh (.int at_) true, .sh (.int up) true, .sh (.lst (S.map .int)) true, .sh (.int p) true, .sh (.int am) true, .sh (.lst menu) true, .un, .un, .un, .un, .un, .un] = .ok ⟨.lst (lsz.map .int), .nw, true⟩ := rfl
    rw [asg_ap, call_ap, aCons_ap, aCons_ap, e6]
    simp [hc2, eR]
  refine seq_nx (ρ1 := lstS ns at_ up S p am menu R [] [.un, .un, .un, .un]) (by simp) ?_
  refine seq_nx (ρ1 := lstS ns at_ up S p am menu R fixed [x9, x10, .un, .un]) ?_ ?_
  · rw [for_ap, iR1_at (n := am) (m := .pl) (b := true) (by simp) (by omega), out_ok, show am.toNat = A by omega]
    simpa using eL
  · simp [sFz]
end Pf
set_option maxHeartbeats 4000000
namespace Pf
open PySem L2 Ev
theorem any_ok (ns : List Int) (at_ : Int) (h0 : 0 ≤ at_) (h1 : at_ ≤ 900) : ∃ (d : D) (p : Nat) (fixed bands : List D), Φ__law_any_family [.lsk (ns.map .int), .int at_] = .ok (d, true) ∧ WData d p fixed bands := by
  obtain ⟨c1, hc1⟩ := cell_call ns at_ h0 (by omega) false true
  obtain ⟨S, hS, dS⟩ := digits_call [5, 9] (by decide) (by decide) c1 .nw true true
  obtain ⟨s0, hs0, s00, s01⟩ := dg_get dS 0 rfl
  have a0 := fun {m : Mk3} => gAt_ints (m := m) (m' := .pl) (b := true) (b' := true) (i := 0) (by decide) hs0
  have hS' : callR Φ__law_digits [⟨.int c1, .pl, true⟩, ⟨.lst [.int 5, .int 9], .nw, true⟩] [] = .ok ⟨.lst (S.map .int), .pl, true⟩ := hS
  obtain ⟨d1, p1, f1, e1', w1, _⟩ := list_ok ns at_ 6 h0 h1 (by omega) (by omega)
  obtain ⟨d2, p2, f2, b2, e2', w2⟩ := family_ok ns at_ h0 h1
  have k1 : callR Φ__law_list [⟨.lsk (ns.map .int), .pl, false⟩, ⟨.int at_, .pl, true⟩, ⟨.int 6, .pl, true⟩] [] = .ok ⟨d1, .pl, true⟩ := callR_new e1'
  have k2 : callR Φ__law_family [⟨.lsk (ns.map .int), .pl, false⟩, ⟨.int at_, .pl, true⟩] [] = .ok ⟨d2, .pl, true⟩ := callR_new e2'
  by_cases h : s0 = 4
  · refine ⟨d1, p1, f1, [], bodyR_ret (g := g__law_any_family) (n := 2) (ds := [.lsk (ns.map .int), .int at_]) (a := ⟨d1, .pl, true⟩) ?_, w1⟩
    show g__law_any_family [.sh (.lsk (ns.map .int)) false, .sh (.int at_) true] = _
    unfold g__law_any_family
    simp [hc1, hS', a0, cEq_i, h, k1]
  · refine ⟨d2, p2, f2, b2, bodyR_ret (g := g__law_any_family) (n := 2) (ds := [.lsk (ns.map .int), .int at_]) (a := ⟨d2, .pl, true⟩) ?_, w2⟩
    show g__law_any_family [.sh (.lsk (ns.map .int)) false, .sh (.int at_) true] = _
    unfold g__law_any_family
    simp [hc1, hS', a0, cEq_i, h, k2]
section
variable {d : D} {p : Nat} {fixed bands : List D} (w : WData d p fixed bands)
include w
theorem wfx {m : Mk3} {b b' : Bool} : gAt ⟨d, m, b⟩ ⟨.int 1, .pl, b'⟩ = .ok ⟨.lst fixed, .pl, b⟩ := by
  rw [w.eq]
  cases b <;> rfl
theorem wbd {m : Mk3} {b b' : Bool} : gAt ⟨d, m, b⟩ ⟨.int 2, .pl, b'⟩ = .ok ⟨.lst bands, .pl, b⟩ := by
  rw [w.eq]
  cases b <;> rfl
theorem wpr {m : Mk3} {b b' : Bool} : gAt ⟨d, m, b⟩ ⟨.int 0, .pl, b'⟩ = .ok ⟨.int p, .pl, true⟩ := by
  rw [w.eq]
  cases b <;> rfl
theorem wsc : scalar d = false := by rw [w.eq]; rfl
end
end Pf
set_option maxHeartbeats 4000000
namespace Pf
open PySem L2 Ev
/-! answers and their counts -/
abbrev Ans := List (Int × Bool)
def no (A : Ans) (s : Int) : Nat := A.countP fun a => a.1 == s && !a.2
def yes (A : Ans) (s : Int) : Nat := A.countP fun a => a.1 == s && a.2
def PrOk (d : D) (a : Int × Bool) : Prop := d = .tup [.int a.1, .bl a.2] ∨ d = .lst [.int a.1, .bl a.2]
def Prs : List D → Ans → Prop
  | [], [] => True
  | d :: ds, a :: as => PrOk d a ∧ Prs ds as
  | _, _ => False
theorem Prs.len : ∀ {ds : List D} {A : Ans}, Prs ds A → ds.length = A.length
  | [], [], _ => rfl
  | _ :: _, _ :: _, h => congrArg (· + 1) (Prs.len h.2)
  | [], _ :: _, h => h.elim
  | _ :: _, [], h => h.elim
theorem Prs.get : ∀ {ds : List D} {A : Ans} {i : Nat} {d : D}, Prs ds A → ds[i]? = some d → ∃ a, A[i]? = some a ∧ PrOk d a
  | d :: ds, a :: A, 0, e, h, he => by
    simp at he
    subst he
    exact ⟨a, rfl, h.1⟩
  | d :: ds, a :: A, i + 1, e, h, he => by
    obtain ⟨x, h1, h2⟩ := Prs.get (i := i) h.2 (by simpa using he)
    exact ⟨x, by simpa using h1, h2⟩
  | [], [], _, _, _, he => by simp at he
  | [], _ :: _, _, _, h, _ => h.elim
  | _ :: _, [], _, _, h, _ => h.elim
/-! the table -/
theorem valD_put (T : List (Key × D)) (k k' : Key) (d : D) : valD (putD T k d) k' = if k' = k then some d else valD T k' := by
  have app : ∀ T : List (Key × D), (T.any fun kv => decide (kv.1 = k)) = false → valD (T ++ [(k, d)]) k' = if k' = k then some d else valD T k' := by
    intro T
    induction T with
    | nil =>
      intro _
      by_cases h : k' = k
      · simp [valD, h]
      · simp [valD, h, Ne.symm h]
    | cons kv T ih =>
      intro hn
      rw [List.any_cons, Bool.or_eq_false_iff] at hn
      have ih := ih hn.2
      by_cases h2 : kv.1 = k'
      · have : ¬ k' = k := fun z => by
          have := hn.1
          rw [h2, z] at this
          simp at this
        simp [valD, h2, this]
      · simp only [valD, List.cons_append, List.find?_cons, decide_eq_false h2] at ih ⊢
        exact ih
  have mp : ∀ T : List (Key × D), valD (T.map fun kv => if kv.1 = k then (kv.1, d) else kv) k' = if k' = k then (valD T k').map (fun _ => d) else valD T k' := by
    intro T
    induction T with
    | nil => simp [valD]
    | cons kv T ih =>
      by_cases h1 : kv.1 = k
      · by_cases h2 : kv.1 = k'
        · have : k' = k := h2 ▸ h1
          subst this
          simp [valD, h1]
        · have hk : ¬ k' = k := fun z => h2 (h1.trans z.symm)
          simp only [valD, List.map_cons, if_pos h1, List.find?_cons, decide_eq_false h2, if_neg hk] at ih ⊢
          exact ih
      · by_cases h2 : kv.1 = k'
        · have hk : ¬ k' = k := fun z => h1 (h2.trans z)
          simp [valD, h1, h2, hk]
        · simp only [valD, List.map_cons, if_neg h1, List.find?_cons, decide_eq_false h2] at ih ⊢
          exact ih
  unfold putD
  by_cases h : (T.any fun kv => decide (kv.1 = k)) = true
  · rw [if_pos h, mp]
    by_cases hk : k' = k
    · rw [if_pos hk, if_pos hk]
      subst hk
      obtain ⟨kv, hm, hv⟩ := List.any_eq_true.mp h
      cases hf : valD T k' with
      | some _ => rfl
      | none =>
        exfalso
        unfold valD at hf
        have hn := Option.map_eq_none_iff.mp hf
        have := List.find?_eq_none.mp hn kv hm
        exact this hv
    · rw [if_neg hk, if_neg hk]
  · rw [if_neg h, app T (Bool.eq_false_iff.mpr h)]
theorem keys_put {T : List (Key × D)} {ks : List Int} (h : keysI T = some ks) (s : Int) (d : D) : keysI (putD T (.inl s) d) = some (if s ∈ ks then ks else ks ++ [s]) := by
  have any_ : ∀ {T : List (Key × D)} {ks : List Int}, keysI T = some ks → ((T.any fun kv => decide (kv.1 = .inl s)) = true ↔ s ∈ ks) := by
    intro T
    induction T with
    | nil => intro ks h; cases h; simp
    | cons kv T ih =>
      intro ks h
      obtain ⟨k, v⟩ := kv
      cases k with
      | inr x => cases h
      | inl i =>
        obtain ⟨ks', h', rfl⟩ := Option.map_eq_some_iff.mp h
        rw [List.any_cons, Bool.or_eq_true, ih h']
        simp [eq_comm]
  have mp : ∀ {T : List (Key × D)} {ks : List Int}, keysI T = some ks → keysI (T.map fun kv => if kv.1 = .inl s then (kv.1, d) else kv) = some ks := by
    intro T
    induction T with
    | nil => intro ks h; exact h
    | cons kv T ih =>
      intro ks h
      obtain ⟨k, v⟩ := kv
      cases k with
      | inr x => cases h
      | inl i =>
        obtain ⟨ks', h', rfl⟩ := Option.map_eq_some_iff.mp h
        by_cases hi : (Sum.inl i : Key) = .inl s
        · simp [List.map_cons, hi, keysI, ih h']
          exact Sum.inl.inj hi.symm
        · simp [List.map_cons, hi, keysI, ih h']
  have app : ∀ {T : List (Key × D)} {ks : List Int}, keysI T = some ks → keysI (T ++ [(.inl s, d)]) = some (ks ++ [s]) := by
    intro T
    induction T with
    | nil => intro ks h; cases h; rfl
    | cons kv T ih =>
      intro ks h
      obtain ⟨k, v⟩ := kv
      cases k with
      | inr x => cases h
      | inl i =>
        obtain ⟨ks', h', rfl⟩ := Option.map_eq_some_iff.mp h
        simp [keysI, ih h']
  unfold putD
  by_cases hs : s ∈ ks
  · rw [if_pos ((any_ h).mpr hs), if_pos hs, mp h]
  · rw [if_neg (fun z => hs ((any_ h).mp z)), if_neg hs, app h]
/-- the table of the answers A -/
structure Tab (T : List (Key × D)) (A : Ans) (ks : List Int) : Prop where
  keys : keysI T = some ks
  nd : ks.Nodup
  mem : ∀ s, s ∈ ks ↔ ∃ b, (s, b) ∈ A
  val : ∀ s, valD T (.inl s) = if s ∈ ks then some (.tup [.int (no A s), .int (yes A s)]) else none
  len : ks.length ≤ A.length
theorem no_zero {A : Ans} {s : Int} (h : ¬ ∃ b, (s, b) ∈ A) : no A s = 0 ∧ yes A s = 0 := by
  unfold no yes
  constructor
  · refine List.countP_eq_zero.mpr fun a ha hp => h ?_
    simp only [Bool.and_eq_true, beq_iff_eq] at hp
    exact ⟨a.2, by rw [← hp.1]; exact ha⟩
  · refine List.countP_eq_zero.mpr fun a ha hp => h ?_
    simp only [Bool.and_eq_true, beq_iff_eq] at hp
    exact ⟨a.2, by rw [← hp.1]; exact ha⟩
theorem no_snoc (A : Ans) (s t : Int) (b : Bool) : no (A ++ [(s, b)]) t = no A t + (if s = t ∧ b = false then 1 else 0) := by
  unfold no
  rw [List.countP_append]
  cases b <;> by_cases h : s = t <;> simp [h]
theorem yes_snoc (A : Ans) (s t : Int) (b : Bool) : yes (A ++ [(s, b)]) t = yes A t + (if s = t ∧ b = true then 1 else 0) := by
  unfold yes
  rw [List.countP_append]
  cases b <;> by_cases h : s = t <;> simp [h]
theorem Tab.put {T : List (Key × D)} {A : Ans} {ks : List Int} (h : Tab T A ks) (s : Int) (b : Bool) : ∃ ks', Tab (putD T (.inl s) (.tup [.int (no (A ++ [(s, b)]) s), .int (yes (A ++ [(s, b)]) s)])) (A ++ [(s, b)]) ks' := by
  refine ⟨_, keys_put h.keys s _, ?_, fun t => ?_, fun t => ?_, ?_⟩
  · by_cases hs : s ∈ ks
    · rw [if_pos hs]; exact h.nd
    · rw [if_neg hs]
      exact List.nodup_append.mpr ⟨h.nd, by simp, fun a ha c hc => by
        simp at hc
        subst hc
        exact fun z => hs (z ▸ ha)⟩
  · have : (∃ c, (t, c) ∈ A ++ [(s, b)]) ↔ (∃ c, (t, c) ∈ A) ∨ t = s := by
      constructor
      · rintro ⟨c, hc⟩
        rcases List.mem_append.mp hc with z | z
        · exact .inl ⟨c, z⟩
        · simp at z; exact .inr z.1
      · rintro (⟨c, hc⟩ | z)
        · exact ⟨c, List.mem_append_left _ hc⟩
        · exact ⟨b, List.mem_append_right _ (by simp [z])⟩
    rw [this, ← h.mem t]
    by_cases hs : s ∈ ks
    · rw [if_pos hs]
      constructor
      · exact .inl
      · rintro (z | z)
        · exact z
        · exact z ▸ hs
    · rw [if_neg hs]
      simp
  · rw [valD_put, h.val t]
    by_cases ht : t = s
    · subst ht
      rw [if_pos rfl]
      by_cases hs : t ∈ ks
      · rw [if_pos hs, if_pos hs]
      · rw [if_neg hs, if_pos (by simp)]
    · have hn : ¬ (Sum.inl t : Key) = .inl s := fun z => ht (Sum.inl.inj z)
      have n1 : no (A ++ [(s, b)]) t = no A t := by rw [no_snoc, if_neg (fun z => ht z.1.symm), Nat.add_zero]
      have n2 : yes (A ++ [(s, b)]) t = yes A t := by rw [yes_snoc, if_neg (fun z => ht z.1.symm), Nat.add_zero]
      rw [if_neg hn, n1, n2]
      by_cases hs : s ∈ ks
      · rw [if_pos hs]
      · rw [if_neg hs]
        have e : (t ∈ ks ++ [s]) ↔ t ∈ ks := by simp [ht]
        by_cases htk : t ∈ ks
        · rw [if_pos htk, if_pos (e.mpr htk)]
        · rw [if_neg htk, if_neg (fun z => htk (e.mp z))]
  · by_cases hs : s ∈ ks
    · rw [if_pos hs]
      have := h.len
      simp
      omega
    · rw [if_neg hs]
      have := h.len
      simp
      omega
theorem tab_nil : Tab [] [] [] := ⟨rfl, List.nodup_nil, fun s => by simp, fun s => by simp [valD], Nat.le_refl _⟩
end Pf
set_option maxHeartbeats 4000000
namespace Pf
open PySem L2 Ev
/-- a list or a tuple of answers -/
def AnsD (d : D) (A : Ans) : Prop := ∃ ds : List D, (d = .lst ds ∨ d = .tup ds) ∧ Prs ds A
theorem keysI_len : ∀ {T : List (Key × D)} {ks : List Int}, keysI T = some ks → T.length = ks.length
  | [], ks, h => by cases h; rfl
  | (.inl i, v) :: T, ks, h => by
    obtain ⟨ks', h', rfl⟩ := Option.map_eq_some_iff.mp h
    simp [keysI_len h']
  | (.inr x, v) :: T, ks, h => by cases h
theorem take_snoc {α : Type} {l : List α} {i : Nat} {a : α} (h : l[i]? = some a) : l.take (i + 1) = l.take i ++ [a] := by
  rw [List.take_succ, h]
  rfl
theorem tally_step {T : List (Key × D)} {A : Ans} {ks : List Int} (hT : Tab T A ks) (hl : A.length < 1000) (a : SV) (s : Int) (b : Bool) (x4 x5 : SV) :
    ∃ (T' : List (Key × D)) (ks' : List Int) (y4 y5 : SV), b_tallies_1 [a, .ow (.dct T) true, .sh (.int s) true, .sh (.bl b) true, x4, x5] = .next [a, .ow (.dct T') true, .sh (.int s) true, .sh (.bl b) true, y4, y5] ∧ Tab T' (A ++ [(s, b)]) ks' := by
  obtain ⟨ks', h'⟩ := hT.put s b
  have hlen : T.length < 1000000 := by rw [keysI_len hT.keys]; have := hT.len; omega
  refine ⟨_, ks', .sh (.int (no A s)) true, .sh (.int (yes A s)) true, ?_, h'⟩
  unfold b_tallies_1
  refine seq_nx (ρ1 := [a, .ow (.dct T) true, .sh (.int s) true, .sh (.bl b) true, .sh (.int (no A s)) true, .sh (.int (yes A s)) true]) ?_ ?_
  · have e : eGet2 (eVar 1) (eVar 2) (eTup (aCons (eLit (.int 0)) (aCons (eLit (.int 0)) aNil))) [a, .ow (.dct T) true, .sh (.int s) true, .sh (.bl b) true, x4, x5] = .ok ⟨.tup [.int (no A s), .int (yes A s)], .pl, true⟩ := by
      unfold eGet2
      have hv := hT.val s
      by_cases hs : s ∈ ks
      · rw [if_pos hs] at hv
        simp [dct?, key?, hv]
      · rw [if_neg hs] at hv
        have hz := no_zero (fun z => hs ((hT.mem s).mpr z))
        simp [dct?, key?, hv, hz.1, hz.2]
    unfold sUnp
    rw [e]
    simp [hSeq, hNames]
  · have hn := no_snoc A s s b
    have hy := yes_snoc A s s b
    cases b with
    | true =>
      have hn : no (A ++ [(s, true)]) s = no A s := by rw [hn]; simp
      have hy : yes (A ++ [(s, true)]) s = yes A s + 1 := by rw [hy]; simp
      rw [hn, hy]
      simp [sSetA, sSetK, key?, hlen]
    | false =>
      have hn : no (A ++ [(s, false)]) s = no A s + 1 := by rw [hn]; simp
      have hy : yes (A ++ [(s, false)]) s = yes A s := by rw [hy]; simp
      rw [hn, hy]
      simp [sSetA, sSetK, key?, hlen]
theorem tallies_ok {d : D} {A : Ans} (hd : AnsD d A) (hl : A.length < 1000) : ∃ (T : List (Key × D)) (ks : List Int), Φ_tallies [d] = .ok (.dct T, true) ∧ Tab T A ks := by
  obtain ⟨ds, hds, hp⟩ := hd
  have hdl := hp.len
  obtain ⟨ρ, e, T, ks, x2, x3, x4, x5, rfl, hT⟩ := loop_pred (b := false) (h := hSeq [2, 3]) (g := b_tallies_1) (fun k ρ => ∃ (T : List (Key × D)) (ks : List Int) (x2 x3 x4 x5 : SV), ρ = [.sh d false, .ow (.dct T) true, x2, x3, x4, x5] ∧ Tab T (A.take k) ks) ds 0 [.sh d false, .ow (.dct []) true, .un, .un, .un, .un] ⟨[], [], _, _, _, _, rfl, tab_nil⟩ (fun i y ρ hy ⟨T, ks, x2, x3, x4, x5, hρ, hT⟩ => by
    subst hρ
    rw [Nat.zero_add] at hT ⊢
    obtain ⟨⟨s, b⟩, ha, hpr⟩ := hp.get hy
    obtain ⟨T', ks', y4, y5, e, h'⟩ := tally_step hT (by rw [List.length_take]; omega) (.sh d false) s b x4 x5
    rw [← take_snoc ha] at h'
    refine ⟨[.sh d false, .ow (.dct T) true, .sh (.int s) true, .sh (.bl b) true, x4, x5], _, ?_, .inl e, T', ks', _, _, y4, y5, rfl, h'⟩
    rcases hpr with z | z <;> rw [z] <;> simp [hSeq, hNames])
  rw [Nat.zero_add, hdl, List.take_length] at hT
  refine ⟨T, ks, bodyR_ret (g := g_tallies) (n := 6) (ds := [d]) (a := ⟨.dct T, .bo, true⟩) ?_, hT⟩
  have hsd : scalar d = false := by rcases hds with z | z <;> rw [z] <;> rfl
  show g_tallies [.sh d (scalar d), .un, .un, .un, .un, .un] = _
  rw [hsd]
  unfold g_tallies
  refine seq_nx (ρ1 := [.sh d false, .ow (.dct []) true, .un, .un, .un, .un]) (by simp [eDnew]) ?_
  refine seq_nx (ρ1 := [.sh d false, .ow (.dct T) true, x2, x3, x4, x5]) ?_ ?_
  · rw [for_ap]
    have ei : iAll (eVar 0) [.sh d false, .ow (.dct []) true, .un, .un, .un, .un] = .ok ⟨ds, false, false⟩ := by
      rcases hds with z | z <;> subst z <;> rfl
    rw [ei]
    exact e
  · simp
/-! settled -/
def pairT (a : Int × Bool) : D := .tup [.int a.1, .bl a.2]
def told (A : Ans) (l : Int) (s : Int) : Option (Int × Bool) := if l < yes A s then some (s, true) else if l < no A s then some (s, false) else none
def clash (A : Ans) (l : Int) (s : Int) : Prop := l < no A s ∧ l < yes A s
abbrev stS (d : D) (l : Int) (T : List (Key × D)) (acc : List D) (x4 x5 x6 : SV) : En := [.sh d false, .sh (.int l) true, .sh (.dct T) true, .ow (.lst acc) true, x4, x5, x6]
section
variable {d : D} {A : Ans} {l : Int} {T : List (Key × D)} {ks : List Int} (hT : Tab T A ks)
include hT
theorem settle_unp {acc : List D} {s : Int} (hs : s ∈ ks) (x5 x6 : SV) : sUnp (hSeq [5, 6]) (e2 gAt (eVar 2) (eVar 4)) (stS d l T acc (.sh (.int s) true) x5 x6) = .next (stS d l T acc (.sh (.int s) true) (.sh (.int (no A s)) true) (.sh (.int (yes A s)) true)) := by
  have hv := hT.val s
  rw [if_pos hs] at hv
  have e : gAt ⟨.dct T, .pl, true⟩ ⟨.int s, .pl, true⟩ = .ok ⟨.tup [.int (no A s), .int (yes A s)], .pl, true⟩ := by
    show gDg _ _ = _
    simp [gDg, dct?, key?, hv]
  unfold sUnp
  simp [e, hSeq, hNames]
theorem settle_good {acc : List D} (hacc : acc.length < 1000) {s : Int} (hs : s ∈ ks) (hg : ¬ clash A l s) (x5 x6 : SV) : b_settled_1 (stS d l T acc (.sh (.int s) true) x5 x6) = .next (stS d l T (acc ++ ((told A l s).toList.map pairT)) (.sh (.int s) true) (.sh (.int (no A s)) true) (.sh (.int (yes A s)) true)) := by
  unfold b_settled_1
  refine seq_nx (settle_unp hT hs x5 x6) ?_
  have ha : acc.length < 1000000 := by omega
  refine seq_nx (ρ1 := stS d l T acc (.sh (.int s) true) (.sh (.int (no A s)) true) (.sh (.int (yes A s)) true)) ?_ ?_
  · rw [if_ap]
    by_cases h1 : l < no A s
    · have h2 : ¬ l < yes A s := fun z => hg ⟨h1, z⟩
      simp [h1, h2]
    · simp [h1]
  · unfold told
    by_cases h2 : l < yes A s
    · rw [if_ap]
      simp [h2, sApp, pairT, ha]
    · rw [if_ap]
      by_cases h1 : l < no A s
      · simp [h1, h2, sApp, pairT, ha]
      · simp [h1, h2]
theorem settle_bad {acc : List D} {s : Int} (hs : s ∈ ks) (hg : clash A l s) (x5 x6 : SV) : ∃ ρ, b_settled_1 (stS d l T acc (.sh (.int s) true) x5 x6) = .exc ρ 3 [.int s] := by
  refine ⟨stS d l T acc (.sh (.int s) true) (.sh (.int (no A s)) true) (.sh (.int (yes A s)) true), ?_⟩
  unfold b_settled_1
  refine seq_nx (settle_unp hT hs x5 x6) (seq_exc ?_)
  rw [if_ap]
  have e : sRaise 3 Φ_BadAnswers___init__ 1 1 (aCons (eVar 4) aNil) (stS d l T acc (.sh (.int s) true) (.sh (.int (no A s)) true) (.sh (.int (yes A s)) true)) = .exc (stS d l T acc (.sh (.int s) true) (.sh (.int (no A s)) true) (.sh (.int (yes A s)) true)) 3 [.int s] := rfl
  simp [hg.1, hg.2, e]
theorem scan_good : ∀ (K : List Int) (acc : List D) (x4 x5 x6 : SV), (∀ s ∈ K, s ∈ ks) → (∀ s ∈ K, ¬ clash A l s) → acc.length + K.length < 1000 → ∃ y4 y5 y6 : SV, loopF (hName 4) true b_settled_1 (K.map .int) (stS d l T acc x4 x5 x6) = .next (stS d l T (acc ++ (K.filterMap (told A l)).map pairT) y4 y5 y6)
  | [], acc, x4, x5, x6, _, _, _ => ⟨x4, x5, x6, by simp [loopF]⟩
  | s :: K, acc, x4, x5, x6, hK, hg, hl => by
    have e1' := settle_good (d := d) (l := l) hT (acc := acc) (by simp at hl; omega) (hK s (List.mem_cons_self ..)) (hg s (List.mem_cons_self ..)) x5 x6
    have hlen : ((told A l s).toList.map pairT).length ≤ 1 := by cases told A l s <;> simp
    obtain ⟨y4, y5, y6, e2'⟩ := scan_good K (acc ++ ((told A l s).toList.map pairT)) (.sh (.int s) true) (.sh (.int (no A s)) true) (.sh (.int (yes A s)) true) (fun t ht => hK t (List.mem_cons_of_mem _ ht)) (fun t ht => hg t (List.mem_cons_of_mem _ ht)) (by simp only [List.length_append]; simp only [List.length_cons] at hl; omega)
    refine ⟨y4, y5, y6, ?_⟩
    have eh : hName 4 (.int s) true (stS d l T acc x4 x5 x6) = some (stS d l T acc (.sh (.int s) true) x5 x6) := by simp
    rw [List.map_cons, loopF, eh]
    show (match b_settled_1 (stS d l T acc (.sh (.int s) true) x5 x6) with
      | .next ρ2 => loopF (hName 4) true b_settled_1 (K.map .int) ρ2
      | .cont ρ2 => loopF (hName 4) true b_settled_1 (K.map .int) ρ2
      | .brk ρ2 => .next ρ2
      | o => o) = _
    rw [e1']
    show loopF (hName 4) true b_settled_1 (K.map .int) _ = _
    rw [e2', List.append_assoc]
    congr 3
    cases h : told A l s <;> simp [h]
theorem scan_bad : ∀ (K1 : List Int) (s : Int) (K2 : List Int) (acc : List D) (x4 x5 x6 : SV), (∀ t ∈ K1, t ∈ ks) → s ∈ ks → (∀ t ∈ K1, ¬ clash A l t) → clash A l s → acc.length + K1.length < 1000 → ∃ ρ, loopF (hName 4) true b_settled_1 ((K1 ++ s :: K2).map .int) (stS d l T acc x4 x5 x6) = .exc ρ 3 [.int s]
  | [], s, K2, acc, x4, x5, x6, _, hs, _, hc, _ => by
    obtain ⟨ρ, e⟩ := settle_bad (d := d) (acc := acc) hT hs hc x5 x6
    refine ⟨ρ, ?_⟩
    have eh : hName 4 (.int s) true (stS d l T acc x4 x5 x6) = some (stS d l T acc (.sh (.int s) true) x5 x6) := by simp
    rw [List.nil_append, List.map_cons, loopF, eh]
    show (match b_settled_1 (stS d l T acc (.sh (.int s) true) x5 x6) with
      | .next ρ2 => loopF (hName 4) true b_settled_1 (K2.map .int) ρ2
      | .cont ρ2 => loopF (hName 4) true b_settled_1 (K2.map .int) ρ2
      | .brk ρ2 => .next ρ2
      | o => o) = _
    rw [e]
  | t :: K1, s, K2, acc, x4, x5, x6, hK, hs, hg, hc, hl => by
    have e1' := settle_good (d := d) (l := l) hT (acc := acc) (by simp at hl; omega) (hK t (List.mem_cons_self ..)) (hg t (List.mem_cons_self ..)) x5 x6
    have hlen : ((told A l t).toList.map pairT).length ≤ 1 := by cases told A l t <;> simp
    obtain ⟨ρ, e2'⟩ := scan_bad K1 s K2 (acc ++ ((told A l t).toList.map pairT)) (.sh (.int t) true) (.sh (.int (no A t)) true) (.sh (.int (yes A t)) true) (fun u hu => hK u (List.mem_cons_of_mem _ hu)) hs (fun u hu => hg u (List.mem_cons_of_mem _ hu)) hc (by simp only [List.length_append]; simp only [List.length_cons] at hl; omega)
    refine ⟨ρ, ?_⟩
    have eh : hName 4 (.int t) true (stS d l T acc x4 x5 x6) = some (stS d l T acc (.sh (.int t) true) x5 x6) := by simp
    rw [List.cons_append, List.map_cons, loopF, eh]
    show (match b_settled_1 (stS d l T acc (.sh (.int t) true) x5 x6) with
      | .next ρ2 => loopF (hName 4) true b_settled_1 ((K1 ++ s :: K2).map .int) ρ2
      | .cont ρ2 => loopF (hName 4) true b_settled_1 ((K1 ++ s :: K2).map .int) ρ2
      | .brk ρ2 => .next ρ2
      | o => o) = _
    rw [e1']
    exact e2'
end
end Pf
set_option maxHeartbeats 4000000
namespace Pf
open PySem L2 Ev
/-- the numbers below n -/
def R_ (n : Nat) : List Int := (List.range n).map fun (i : Nat) => (i : Int)
theorem R_mem {n : Nat} {s : Int} : s ∈ R_ n ↔ 0 ≤ s ∧ s < n := by
  unfold R_
  constructor
  · intro h
    obtain ⟨i, hi, rfl⟩ := List.mem_map.mp h
    have := List.mem_range.mp hi
    omega
  · intro h
    exact List.mem_map.mpr ⟨s.toNat, List.mem_range.mpr (by omega), by omega⟩
theorem R_pw (n : Nat) : (R_ n).Pairwise (· < ·) := by
  unfold R_
  rw [List.pairwise_map]
  exact (List.pairwise_lt_range (n := n)).imp fun {a b} h => by show (a : Int) < (b : Int); omega
theorem R_nd (n : Nat) : (R_ n).Nodup := (R_pw n).imp fun h => by omega
theorem sort_R {ks : List Int} (hn : ks.Nodup) {n : Nat} (hk : ∀ s ∈ ks, 0 ≤ s ∧ s < n) : isort ks = (R_ n).filter fun s => decide (s ∈ ks) := by
  refine (sort_eq ?_ ?_).symm
  · refine (List.perm_ext_iff_of_nodup ((R_nd n).filter _) hn).mpr fun s => ?_
    rw [List.mem_filter]
    constructor
    · exact fun h => of_decide_eq_true h.2
    · exact fun h => ⟨R_mem.mpr (hk s h), decide_eq_true h⟩
  · exact ((R_pw n).filter _).imp fun h => by omega
theorem fm_filter {α β : Type} {p : α → Bool} {f : α → Option β} : ∀ {l : List α}, (∀ x ∈ l, p x = false → f x = none) → (l.filter p).filterMap f = l.filterMap f
  | [], _ => rfl
  | x :: l, h => by
    have ih := fm_filter (l := l) fun y hy => h y (List.mem_cons_of_mem _ hy)
    cases hp : p x with
    | true => rw [List.filter_cons_of_pos hp, List.filterMap_cons, List.filterMap_cons, ih]
    | false =>
      rw [List.filter_cons_of_neg (by rw [hp]; decide), List.filterMap_cons, h x (List.mem_cons_self ..) hp, ih]
/-- what is told of the numbers below n -/
def due (A : Ans) (l : Int) (n : Nat) : List (Int × Bool) := (R_ n).filterMap (told A l)
theorem told_none {A : Ans} {l s : Int} (hl : 0 ≤ l) (h : ¬ ∃ b, (s, b) ∈ A) : told A l s = none := by
  obtain ⟨h1, h2⟩ := no_zero h
  unfold told
  rw [h1, h2, if_neg (by omega), if_neg (by omega)]
theorem clash_in {A : Ans} {l s : Int} (hl : 0 ≤ l) (h : clash A l s) : ∃ b, (s, b) ∈ A := Classical.byContradiction fun z => by
  obtain ⟨h1, h2⟩ := no_zero z
  have := h.1
  rw [h1] at this
  omega
section
variable {d : D} {A : Ans} (hd : AnsD d A) (hl : A.length < 1000) (h64 : ∀ ks : List Int, ks.Nodup → ks.length ≤ A.length → (∀ s ∈ ks, ∃ b, (s, b) ∈ A) → ks.length < 64) {l : Int} (hl0 : 0 ≤ l) {n : Nat} (hA : ∀ a ∈ A, 0 ≤ a.1 ∧ a.1 < n)
include hd hl h64 hl0 hA
theorem settled_run : ∃ (T : List (Key × D)) (ks : List Int), Tab T A ks ∧ isort ks = (R_ n).filter (fun s => decide (s ∈ ks)) ∧ ∀ o, loopF (hName 4) true b_settled_1 ((isort ks).map .int) (stS d l T [] .un .un .un) = o →
    g_settled [.sh d false, .sh (.int l) true, .un, .un, .un, .un, .un] = o.then (sRet (e1 gTuple (eVar 3))) := by
  obtain ⟨T, ks, e, hT⟩ := tallies_ok hd hl
  have hks : ∀ s ∈ ks, 0 ≤ s ∧ s < n := fun s hs => by
    obtain ⟨b, hb⟩ := (hT.mem s).mp hs
    exact hA _ hb
  refine ⟨T, ks, hT, sort_R hT.nd hks, fun o ho => ?_⟩
  have hc : callR Φ_tallies [⟨d, .pl, false⟩] [] = .ok ⟨.dct T, .pl, true⟩ := callR_new e
  have hsd : scalar d = false := by
    obtain ⟨ds, z, _⟩ := hd
    rcases z with z | z <;> rw [z] <;> rfl
  have hkl : ks.length < 64 := h64 ks hT.nd hT.len fun s hs => (hT.mem s).mp hs
  have hs : gSorted ⟨.dct T, .pl, true⟩ = .ok ⟨.lst ((isort ks).map .int), .nw, true⟩ := by
    simp [gSorted, gSortedD, hT.keys, hkl, orR]
  unfold g_settled
  refine seq_nx (ρ1 := [.sh d false, .sh (.int l) true, .sh (.dct T) true, .un, .un, .un, .un]) (by simp [hsd, hc]) ?_
  refine seq_nx (ρ1 := stS d l T [] .un .un .un) (by simp) ?_
  rw [seq_ap, for_ap, iAll_l (l := (isort ks).map .int) (m := .nw) (b := true) (by simp [hs]), out_ok]
  show (loopF (hName 4) true b_settled_1 ((isort ks).map .int) (stS d l T [] .un .un .un)).then _ = _
  rw [ho]
theorem settled_goodG (hg : ∀ s ∈ R_ n, ¬ clash A l s) : Φ_settled [d, .int l] = .ok (.tup ((due A l n).map pairT), true) := by
  have hsd : scalar d = false := by
    obtain ⟨ds, z, _⟩ := hd
    rcases z with z | z <;> rw [z] <;> rfl
  obtain ⟨T, ks, hT, hK, run⟩ := settled_run hd hl h64 hl0 hA
  have hin : ∀ s ∈ isort ks, s ∈ ks := fun s hs => (isort_perm ks).mem_iff.mp hs
  have hinR : ∀ s ∈ isort ks, s ∈ R_ n := fun s hs => by rw [hK] at hs; exact (List.mem_filter.mp hs).1
  have hlen : (isort ks).length < 1000 := by
    rw [(isort_perm ks).length_eq]
    have := hT.len
    omega
  obtain ⟨y4, y5, y6, e⟩ := scan_good (d := d) (l := l) hT (isort ks) [] .un .un .un hin (fun s hs => hg s (hinR s hs)) (by simpa using hlen)
  have hdue : (isort ks).filterMap (told A l) = due A l n := by
    rw [hK]
    exact fm_filter fun s _ hp => told_none hl0 fun z => of_decide_eq_false hp ((hT.mem s).mpr z)
  rw [hdue, List.nil_append] at e
  refine bodyR_ret (g := g_settled) (n := 7) (ds := [d, .int l]) (a := ⟨.tup ((due A l n).map pairT), .pl, true⟩) ?_
  show g_settled [.sh d (scalar d), .sh (.int l) true, .un, .un, .un, .un, .un] = _
  rw [hsd, run _ e]
  simp [gTuple]
theorem settled_badG {R1 : List Int} {s : Int} {R2 : List Int} (hR : R_ n = R1 ++ s :: R2) (hg : ∀ t ∈ R1, ¬ clash A l t) (hc : clash A l s) : Φ_settled [d, .int l] = .exc 3 [.int s] := by
  have hsd : scalar d = false := by
    obtain ⟨ds, z, _⟩ := hd
    rcases z with z | z <;> rw [z] <;> rfl
  obtain ⟨T, ks, hT, hK, run⟩ := settled_run hd hl h64 hl0 hA
  have hs : s ∈ ks := (hT.mem s).mpr (clash_in hl0 hc)
  rw [hR, List.filter_append, List.filter_cons_of_pos (by simpa using hs)] at hK
  have hlen : (isort ks).length < 1000 := by
    rw [(isort_perm ks).length_eq]
    have := hT.len
    omega
  have hin : ∀ t ∈ isort ks, t ∈ ks := fun t ht => (isort_perm ks).mem_iff.mp ht
  obtain ⟨ρ, e⟩ := scan_bad (d := d) (l := l) hT (R1.filter fun s => decide (s ∈ ks)) s (R2.filter fun s => decide (s ∈ ks)) [] .un .un .un (fun t ht => of_decide_eq_true (List.mem_filter.mp ht).2) hs (fun t ht => hg t (List.mem_filter.mp ht).1) hc (by
    rw [hK] at hlen
    simp only [List.length_append, List.length_cons, List.length_nil] at hlen ⊢
    omega)
  rw [← hK] at e
  refine bodyR_exc (g := g_settled) (n := 7) (ds := [d, .int l]) (ρ := ρ) ?_
  show g_settled [.sh d (scalar d), .sh (.int l) true, .un, .un, .un, .un, .un] = _
  rw [hsd, run _ e]
  rfl
end
section
variable {d : D} {A : Ans} (hd : AnsD d A) (hl : A.length < 64) {l : Int} (hl0 : 0 ≤ l) {n : Nat} (hA : ∀ a ∈ A, 0 ≤ a.1 ∧ a.1 < n)
include hd hl hl0 hA
theorem settled_good (hg : ∀ s ∈ R_ n, ¬ clash A l s) : Φ_settled [d, .int l] = .ok (.tup ((due A l n).map pairT), true) :=
  settled_goodG hd (by omega) (fun _ _ h _ => by omega) hl0 hA hg
theorem settled_bad {R1 : List Int} {s : Int} {R2 : List Int} (hR : R_ n = R1 ++ s :: R2) (hg : ∀ t ∈ R1, ¬ clash A l t) (hc : clash A l s) : Φ_settled [d, .int l] = .exc 3 [.int s] :=
  settled_badG hd (by omega) (fun _ _ h _ => by omega) hl0 hA hR hg hc
end
/-- no clash below n, or a least one -/
theorem clash_or {A : Ans} {l : Int} (n : Nat) : (∀ s ∈ R_ n, ¬ clash A l s) ∨ ∃ R1 s R2, R_ n = R1 ++ s :: R2 ∧ (∀ t ∈ R1, ¬ clash A l t) ∧ clash A l s := by
  have key : ∀ L : List Int, (∀ s ∈ L, ¬ clash A l s) ∨ ∃ R1 s R2, L = R1 ++ s :: R2 ∧ (∀ t ∈ R1, ¬ clash A l t) ∧ clash A l s := by
    intro L
    induction L with
    | nil => exact .inl fun s h => by simp at h
    | cons t L ih =>
      by_cases h : clash A l t
      · exact .inr ⟨[], t, L, rfl, fun u hu => by simp at hu, h⟩
      · rcases ih with ih | ⟨R1, s, R2, e, h1, h2⟩
        · left
          intro s hs
          rcases List.mem_cons.mp hs with z | z
          · exact z ▸ h
          · exact ih s z
        · refine .inr ⟨t :: R1, s, R2, by rw [e]; rfl, fun u hu => ?_, h2⟩
          rcases List.mem_cons.mp hu with z | z
          · exact z ▸ h
          · exact h1 u z
  exact key _
end Pf
set_option maxHeartbeats 4000000
namespace Pf
open PySem L2 Ev
/-! counting by a comprehension -/
theorem pr0 {d : D} {a : Int × Bool} (h : PrOk d a) {m m' : Mk3} {b b' : Bool} : gAt ⟨d, m, b⟩ ⟨.int 0, m', b'⟩ = .ok ⟨.int a.1, .pl, true⟩ := by
  rcases h with z | z <;> rw [z] <;> cases b <;> rfl
theorem pr1 {d : D} {a : Int × Bool} (h : PrOk d a) {m m' : Mk3} {b b' : Bool} : gAt ⟨d, m, b⟩ ⟨.int 1, m', b'⟩ = .ok ⟨.bl a.2, .pl, true⟩ := by
  rcases h with z | z <;> rw [z] <;> cases b <;> rfl
def prA : D → Int × Bool
  | .tup [.int s, .bl b] => (s, b)
  | .lst [.int s, .bl b] => (s, b)
  | _ => (0, false)
theorem prA_ok {d : D} {a : Int × Bool} (h : PrOk d a) : prA d = a := by
  rcases h with z | z <;> rw [z] <;> rfl
theorem Prs.mem : ∀ {ds : List D} {A : Ans} {d : D}, Prs ds A → d ∈ ds → PrOk d (prA d)
  | d :: ds, a :: A, e, h, he => by
    rcases List.mem_cons.mp he with z | z
    · subst z
      rw [prA_ok h.1]
      exact h.1
    · exact Prs.mem h.2 z
  | [], _, _, _, he => by simp at he
  | _ :: _, [], _, h, _ => h.elim
theorem Prs.count {p : Int × Bool → Bool} : ∀ {ds : List D} {A : Ans}, Prs ds A → (ds.filter fun d => p (prA d)).length = A.countP p
  | [], [], _ => rfl
  | d :: ds, a :: A, h => by
    have ih := Prs.count (p := p) h.2
    rw [List.countP_cons, List.filter_cons, prA_ok h.1]
    cases hp : p a with
    | true => simp [ih]
    | false => simp [ih]
  | [], _ :: _, h => h.elim
  | _ :: _, [], h => h.elim
section
variable {ρ : En} {it : En → R Itm} {ds : List D} {A : Ans} {f bo : Bool} {j k : Nat} {x : Int} (hi : it ρ = .ok ⟨ds, f, bo⟩) (hp : Prs ds A) (hl : A.length ≤ 1000) (hx : ρ[k]? = some (.sh (.int x) true)) (hkj : k ≠ j) (hj : j < ρ.length) (ho : isOw ρ j = false)
include hi hp hl hx hkj hj ho
theorem count_yes : e1 gLen (eLc it (hName j) (tAnd' (t2 cEq (e2 gAt (eVar j) (eLit (.int 0))) (eVar k)) (tVal (e2 gAt (eVar j) (eLit (.int 1))))) (eLit (.int 1)) [j]) ρ = .ok ⟨.int (yes A x), .pl, true⟩ := by
  have e := lcF_fm (h := hName j) (b := f) (t := tAnd' (t2 cEq (e2 gAt (eVar j) (eLit (.int 0))) (eVar k)) (tVal (e2 gAt (eVar j) (eLit (.int 1))))) (el := eLit (.int 1)) (ρ := wipeE ρ [j]) (fun d => (prA d).1 == x && (prA d).2) (fun _ => .int 1) (ds := ds) (fun d hd => by
    have hpr := hp.mem hd
    have hj2 : j < (ρ.set j .un).length := by simpa using hj
    refine ⟨(ρ.set j .un).set j (.sh d (f || scalar d)), by show hName j _ _ (ρ.set j .un) = _; rw [hName_ap, if_pos hj2], ?_, fun _ => ⟨.pl, true, rfl, rfl, rfl⟩⟩
    have vk : eVar k ((ρ.set j .un).set j (.sh d (f || scalar d))) = .ok ⟨.int x, .pl, true⟩ := by
      rw [var_sh (d := .int x) (b := true) (by rw [List.getElem?_set_ne (Ne.symm hkj), List.getElem?_set_ne (Ne.symm hkj)]; exact hx)]
      rfl
    rw [tAnd_ap, t2_ap, e2_ap, var_set hj2, bind_ok', lit_ap, bind_ok', pr0 hpr, bind_ok', vk, bind_ok', cEq_i, ofO_some, bind_ok']
    by_cases h : (prA d).1 = x
    · rw [decide_eq_true h, if_pos rfl, tVal_ap, e2_ap, var_set hj2, bind_ok', lit_ap, bind_ok', pr1 hpr, bind_ok', bl_ap, ofO_some]
      simp [h]
    · rw [decide_eq_false h, if_neg Bool.false_ne_true]
      have : ((prA d).1 == x) = false := by simpa using h
      rw [this]
      rfl)
  rw [e1_ap, lc_at hi (by simp [ho]) (by rw [hp.len]; omega) e, bind_ok', gLen_l, List.length_map, Prs.count (p := fun a => a.1 == x && a.2) hp]
  rfl
theorem count_no : e1 gLen (eLc it (hName j) (tAnd' (t2 cEq (e2 gAt (eVar j) (eLit (.int 0))) (eVar k)) (tNot' (tVal (e2 gAt (eVar j) (eLit (.int 1)))))) (eLit (.int 1)) [j]) ρ = .ok ⟨.int (no A x), .pl, true⟩ := by
  have e := lcF_fm (h := hName j) (b := f) (t := tAnd' (t2 cEq (e2 gAt (eVar j) (eLit (.int 0))) (eVar k)) (tNot' (tVal (e2 gAt (eVar j) (eLit (.int 1)))))) (el := eLit (.int 1)) (ρ := wipeE ρ [j]) (fun d => (prA d).1 == x && !(prA d).2) (fun _ => .int 1) (ds := ds) (fun d hd => by
    have hpr := hp.mem hd
    have hj2 : j < (ρ.set j .un).length := by simpa using hj
    refine ⟨(ρ.set j .un).set j (.sh d (f || scalar d)), by show hName j _ _ (ρ.set j .un) = _; rw [hName_ap, if_pos hj2], ?_, fun _ => ⟨.pl, true, rfl, rfl, rfl⟩⟩
    have vk : eVar k ((ρ.set j .un).set j (.sh d (f || scalar d))) = .ok ⟨.int x, .pl, true⟩ := by
      rw [var_sh (d := .int x) (b := true) (by rw [List.getElem?_set_ne (Ne.symm hkj), List.getElem?_set_ne (Ne.symm hkj)]; exact hx)]
      rfl
    rw [tAnd_ap, t2_ap, e2_ap, var_set hj2, bind_ok', lit_ap, bind_ok', pr0 hpr, bind_ok', vk, bind_ok', cEq_i, ofO_some, bind_ok']
    by_cases h : (prA d).1 = x
    · rw [decide_eq_true h, if_pos rfl, tNot_ap, tVal_ap, e2_ap, var_set hj2, bind_ok', lit_ap, bind_ok', pr1 hpr, bind_ok', bl_ap, ofO_some]
      simp [h]
    · rw [decide_eq_false h, if_neg Bool.false_ne_true]
      have : ((prA d).1 == x) = false := by simpa using h
      rw [this]
      rfl)
  rw [e1_ap, lc_at hi (by simp [ho]) (by rw [hp.len]; omega) e, bind_ok', gLen_l, List.length_map, Prs.count (p := fun a => a.1 == x && !a.2) hp]
  rfl
end
/-! _law_settled -/
theorem R_succ (n : Nat) : R_ (n + 1) = R_ n ++ [(n : Int)] := by
  unfold R_
  rw [List.range_succ, List.map_append]
  rfl
theorem told_eq {A : Ans} {l s : Int} (h : l < yes A s ∨ l < no A s) : told A l s = some (s, decide (l < yes A s)) := by
  unfold told
  by_cases h1 : l < yes A s
  · rw [if_pos h1, decide_eq_true h1]
  · rw [if_neg h1, if_pos (h.resolve_left h1), decide_eq_false h1]
theorem told_no {A : Ans} {l s : Int} (h : ¬ (l < yes A s ∨ l < no A s)) : told A l s = none := by
  unfold told
  rw [if_neg (fun z => h (.inl z)), if_neg (fun z => h (.inr z))]
theorem due_succ (A : Ans) (l : Int) (n : Nat) : due A l (n + 1) = due A l n ++ (told A l n).toList := by
  unfold due
  rw [R_succ, List.filterMap_append]
  cases h : told A l n <;> simp [h]
theorem due_len (A : Ans) (l : Int) (n : Nat) : (due A l n).length ≤ n := by
  unfold due
  refine Nat.le_trans (List.length_filterMap_le _ _) ?_
  unfold R_
  simp
end Pf
set_option maxHeartbeats 4000000
namespace Pf
open PySem L2 Ev
/-! known sentences, the least unknown -/
def kn (A : Ans) (l : Int) (n : Nat) : List Int := (R_ n).filter fun s => (told A l s).isSome
theorem told_fst {A : Ans} {l s : Int} {a : Int × Bool} (h : told A l s = some a) : a.1 = s := by
  unfold told at h
  split at h
  · cases h; rfl
  · split at h
    · cases h; rfl
    · cases h
theorem due_fst (A : Ans) (l : Int) (n : Nat) : (due A l n).map (·.1) = kn A l n := by
  unfold due kn
  induction R_ n with
  | nil => rfl
  | cons s L ih =>
    cases h : told A l s with
    | none => simp [List.filterMap_cons, List.filter_cons, h, ih]
    | some a => simp [List.filterMap_cons, List.filter_cons, h, ih, told_fst h]
theorem kn_nd (A : Ans) (l : Int) (n : Nat) : (kn A l n).Nodup := (R_nd n).filter _
theorem kn_lt {A : Ans} {l : Int} {n : Nat} {s : Int} (h : s ∈ kn A l n) : 0 ≤ s ∧ s < n := R_mem.mp (List.mem_filter.mp h).1
/-- the least number that is not in L -/
def Mex (L : List Int) (q : Nat) : Prop := (q : Int) ∉ L ∧ ∀ j : Nat, j < q → (j : Int) ∈ L
theorem mex_ex {L : List Int} {n : Nat} (h : ∀ s ∈ L, 0 ≤ s ∧ s < n) : ∃ q, Mex L q ∧ q ≤ n := by
  have key : ∀ m : Nat, (∀ j : Nat, j < m → (j : Int) ∈ L) ∨ ∃ q, Mex L q ∧ q < m := by
    intro m
    induction m with
    | zero => exact .inl fun j hj => by omega
    | succ m ih =>
      rcases ih with ih | ⟨q, h1, h2⟩
      · by_cases hm : (m : Int) ∈ L
        · left
          intro j hj
          by_cases z : j = m
          · rw [z]; exact hm
          · exact ih j (by omega)
        · exact .inr ⟨m, ⟨hm, ih⟩, by omega⟩
      · exact .inr ⟨q, h1, by omega⟩
  rcases key (n + 1) with k | ⟨q, h1, h2⟩
  · have := (h _ (k n (by omega))).2
    omega
  · exact ⟨q, h1, by omega⟩
theorem mex_uniq {L : List Int} {q r : Nat} (h1 : Mex L q) (h2 : Mex L r) : q = r := by
  by_cases a : q < r
  · exact absurd (h2.2 q a) h1.1
  · by_cases b : r < q
    · exact absurd (h1.2 r b) h2.1
    · omega
theorem mex_len {L : List Int} (hn : L.Nodup) {q : Nat} (h : Mex L q) : q ≤ L.length := by
  have hp : (R_ q).Perm (L.filter fun s => decide (s ∈ R_ q)) := (List.perm_ext_iff_of_nodup (R_nd q) (hn.filter _)).mpr fun s => by
    rw [List.mem_filter]
    constructor
    · intro hs
      have := R_mem.mp hs
      refine ⟨?_, decide_eq_true hs⟩
      have := h.2 s.toNat (by omega)
      rwa [show ((s.toNat : Nat) : Int) = s by omega] at this
    · exact fun hs => of_decide_eq_true hs.2
  have := hp.length_eq
  have h2 := List.length_filter_le (fun s => decide (s ∈ R_ q)) L
  have h3 : (R_ q).length = q := by unfold R_; simp
  omega
theorem in_ints {s : Int} {L : List Int} {m m' : Mk3} {b b' : Bool} : cInA ⟨.int s, m, b⟩ ⟨.lst (L.map .int), m', b'⟩ = some (decide (s ∈ L)) := by
  show cIn ⟨.int s, m, b⟩ ⟨.lst (L.map .int), m', b'⟩ = _
  unfold cIn
  have h1 : (L.map D.int).all scalar = true := by simp [List.all_eq_true]
  show (if _ then _ else _) = _
  rw [if_pos ⟨rfl, h1⟩]
  congr 1
  unfold inD
  rw [List.any_map, Bool.eq_iff_iff, List.any_eq_true, decide_eq_true_iff]
  constructor
  · rintro ⟨y, hy, e⟩
    have : y = s := by simpa [eqS] using e
    exact this ▸ hy
  · exact fun h => ⟨s, h, by simp [eqS]⟩
/-- [pair[0] for pair in ..] -/
theorem firsts {ρ : En} {it : En → R Itm} {P : List (Int × Bool)} {f bo : Bool} {j : Nat} (hi : it ρ = .ok ⟨P.map pairT, f, bo⟩) (hl : P.length ≤ 1000) (hj : j < ρ.length) (ho : isOw ρ j = false) : eLc it (hName j) tTrue (e2 gAt (eVar j) (eLit (.int 0))) [j] ρ = .ok ⟨.lst ((P.map (·.1)).map .int), .nw, true⟩ := by
  have e := lcF_fm (h := hName j) (b := f) (t := tTrue) (el := e2 gAt (eVar j) (eLit (.int 0))) (ρ := wipeE ρ [j]) (fun _ => true) (fun d => .int (prA d).1) (ds := P.map pairT) (fun d hd => by
    obtain ⟨a, _, rfl⟩ := List.mem_map.mp hd
    have hj2 : j < (ρ.set j .un).length := by simpa using hj
    refine ⟨(ρ.set j .un).set j (.sh (pairT a) (f || scalar (pairT a))), by show hName j _ _ (ρ.set j .un) = _; rw [hName_ap, if_pos hj2], rfl, fun _ => ⟨.pl, true, ?_, rfl, rfl⟩⟩
    rw [e2_ap, var_set hj2, bind_ok', lit_ap, bind_ok', pr0 (d := pairT a) (a := a) (.inl rfl)]
    rfl)
  rw [lc_at hi (by simp [ho]) (by simp; omega) e, show List.filter (fun _ => true) (P.map pairT) = P.map pairT from List.filter_eq_self.mpr (fun _ _ => rfl), List.map_map, List.map_map]
  rfl
end Pf
set_option maxHeartbeats 4000000
namespace Pf
open PySem L2 Ev
/-! the mathematics of the liar -/
section
variable (tr : Int → Bool)
/-- wrong answers, right answers to s -/
def wrong (A : Ans) : Nat := A.countP fun a => a.2 != tr a.1
def right (A : Ans) (s : Int) : Nat := A.countP fun a => a.1 == s && a.2 == tr a.1
theorem yes_le {A : Ans} {s : Int} (h : tr s = false) : yes A s ≤ wrong tr A := by
  unfold yes wrong
  refine List.countP_mono_left fun a _ ha => ?_
  simp only [Bool.and_eq_true, beq_iff_eq] at ha
  rw [ha.1, h, ha.2]
  rfl
theorem no_le {A : Ans} {s : Int} (h : tr s = true) : no A s ≤ wrong tr A := by
  unfold no wrong
  refine List.countP_mono_left fun a _ ha => ?_
  simp only [Bool.and_eq_true, beq_iff_eq, Bool.not_eq_true'] at ha
  rw [ha.1, h, ha.2]
  rfl
theorem right_eq {A : Ans} {s : Int} : right tr A s = if tr s = true then yes A s else no A s := by
  unfold right yes no
  by_cases h : tr s = true
  · rw [if_pos h]
    refine List.countP_congr fun a _ => ?_
    by_cases hs : a.1 = s
    · rw [hs, h]; simp
    · simp [hs]
  · rw [if_neg h]
    have h := Bool.eq_false_iff.mpr h
    refine List.countP_congr fun a _ => ?_
    by_cases hs : a.1 = s
    · rw [hs, h]; simp
    · simp [hs]
theorem no_clash {A : Ans} {l : Nat} (hw : wrong tr A ≤ l) (s : Int) : ¬ clash A (l : Int) s := fun h => by
  obtain ⟨h1, h2⟩ := h
  cases ht : tr s with
  | true => have := no_le tr (A := A) ht; omega
  | false => have := yes_le tr (A := A) ht; omega
theorem told_right {A : Ans} {l : Nat} (hw : wrong tr A ≤ l) {s : Int} {a : Int × Bool} (h : told A (l : Int) s = some a) : a.2 = tr a.1 := by
  have hs := told_fst h
  rw [hs]
  unfold told at h
  split at h
  · rename_i hy
    cases h
    cases ht : tr s with
    | true => rfl
    | false => have := yes_le tr (A := A) ht; omega
  · split at h
    · rename_i hn
      cases h
      cases ht : tr s with
      | true => have := no_le tr (A := A) ht; omega
      | false => rfl
    · cases h
theorem told_none_le {A : Ans} {l : Nat} {s : Int} (h : told A (l : Int) s = none) : right tr A s ≤ l := by
  rw [right_eq]
  unfold told at h
  split at h
  · cases h
  · split at h
    · cases h
    · split <;> omega
theorem told_mono {A : Ans} {l : Nat} {s : Int} (a : Int × Bool) (h : (told A (l : Int) s).isSome = true) : (told (A ++ [a]) (l : Int) s).isSome = true := by
  have hn := no_snoc A a.1 s a.2
  have hy := yes_snoc A a.1 s a.2
  unfold told at h ⊢
  split at h
  · rw [if_pos (by show (l : Int) < yes (A ++ [(a.1, a.2)]) s; rw [hy]; omega)]; rfl
  · split at h
    · split
      · rfl
      · rw [if_pos (by show (l : Int) < no (A ++ [(a.1, a.2)]) s; rw [hn]; omega)]; rfl
    · cases h
theorem right_snoc (A : Ans) (q : Int) (b : Bool) (s : Int) : right tr (A ++ [(q, b)]) s = right tr A s + (if q = s ∧ b = tr q then 1 else 0) := by
  unfold right
  rw [List.countP_append]
  by_cases h : q = s
  · subst h
    by_cases h2 : b = tr q
    · subst h2; simp
    · have : (b == tr q) = false := by simpa using h2
      simp [this, h2]
  · simp [h]
theorem wrong_snoc (A : Ans) (q : Int) (b : Bool) : wrong tr (A ++ [(q, b)]) = wrong tr A + (if b = tr q then 0 else 1) := by
  unfold wrong
  rw [List.countP_append]
  by_cases h2 : b = tr q
  · subst h2; simp
  · have : (b != tr q) = true := by simpa using h2
    simp [this, h2]
theorem sum_add : ∀ (L : List Int) (f g : Int → Nat), (L.map fun s => f s + g s).sum = (L.map f).sum + (L.map g).sum
  | [], _, _ => rfl
  | s :: L, f, g => by simp [sum_add L f g]; omega
theorem sum_one {L : List Int} (hn : L.Nodup) {q : Int} (hq : q ∈ L) (c : Prop) [Decidable c] : (L.map fun s => if q = s ∧ c then 1 else 0).sum = if c then 1 else 0 := by
  induction L with
  | nil => cases hq
  | cons s L ih =>
    rw [List.map_cons, List.sum_cons]
    have hs := (List.nodup_cons.mp hn)
    by_cases h : q = s
    · subst h
      have : ∀ (L : List Int), q ∉ L → (L.map fun s => if q = s ∧ c then 1 else 0).sum = 0 := by
        intro L
        induction L with
        | nil => intro _; rfl
        | cons t L ih =>
          intro hn
          rw [List.map_cons, List.sum_cons, ih (fun z => hn (List.mem_cons_of_mem _ z)), if_neg (fun z => hn (by rw [z.1]; exact List.mem_cons_self ..))]
      rw [this L hs.1]
      by_cases hc : c <;> simp [hc]
    · rw [if_neg (fun z => h z.1), Nat.zero_add]
      rcases List.mem_cons.mp hq with z | z
      · exact absurd z h
      · exact ih hs.2 z
theorem sum_right {n : Nat} : ∀ {A : Ans}, (∀ a ∈ A, a.1 ∈ R_ n) → wrong tr A + ((R_ n).map (right tr A)).sum = A.length := by
  have key : ∀ (k : Nat) (A : Ans), A.length = k → (∀ a ∈ A, a.1 ∈ R_ n) → wrong tr A + ((R_ n).map (right tr A)).sum = A.length := by
    intro k
    induction k with
    | zero =>
      intro A hA _
      have := List.length_eq_zero_iff.mp hA
      subst this
      have : ∀ L : List Int, (L.map (right tr [])).sum = 0 := by
        intro L
        induction L with
        | nil => rfl
        | cons s L ih => simp [right] at ih ⊢; exact ih
      rw [this]
      rfl
    | succ k ih =>
      intro A hA hm
      obtain ⟨B, a, rfl⟩ : ∃ B a, A = B ++ [a] := by
        cases hr : A.reverse with
        | nil =>
          have h0 : A = [] := by simpa using hr
          rw [h0] at hA
          simp at hA
        | cons a B =>
          refine ⟨B.reverse, a, ?_⟩
          have := congrArg List.reverse hr
          simpa using this
      obtain ⟨q, b⟩ := a
      have hB := ih B (by simpa using hA) (fun a ha => hm a (List.mem_append_left _ ha))
      have hq := hm (q, b) (by simp)
      have e1' : (R_ n).map (right tr (B ++ [(q, b)])) = (R_ n).map fun s => right tr B s + (if q = s ∧ b = tr q then 1 else 0) := by
        refine List.map_congr_left fun s _ => right_snoc tr B q b s
      rw [e1', sum_add, sum_one (R_nd n) hq, wrong_snoc, List.length_append, List.length_singleton, ← hB]
      by_cases h : b = tr q <;> simp [h] <;> omega
  exact fun {A} h => key A.length A rfl h
/-- what holds ahead of a turn -/
structure Liar (A : Ans) (l : Nat) : Prop where
  w : wrong tr A ≤ l
  r : ∀ s, right tr A s ≤ l + 1
  q : ∀ q : Nat, Mex (kn A (l : Int) 60) q → ∀ a ∈ A, 0 ≤ a.1 ∧ a.1 ≤ q
theorem liar_nil (l : Nat) : Liar tr [] l := ⟨Nat.zero_le _, fun s => by simp [right], fun q _ a ha => by cases ha⟩
theorem kn_mono {A : Ans} {l : Nat} (a : Int × Bool) {s : Int} (h : s ∈ kn A (l : Int) 60) : s ∈ kn (A ++ [a]) (l : Int) 60 := by
  obtain ⟨h1, h2⟩ := List.mem_filter.mp h
  exact List.mem_filter.mpr ⟨h1, told_mono a h2⟩
theorem mex_mono {A : Ans} {l : Nat} {a : Int × Bool} {q q' : Nat} (h : Mex (kn A (l : Int) 60) q) (h' : Mex (kn (A ++ [a]) (l : Int) 60) q') : q ≤ q' := by
  by_cases z : q' < q
  · exact absurd (kn_mono a (h.2 q' z)) h'.1
  · omega
theorem Liar.step {A : Ans} {l : Nat} (h : Liar tr A l) {q : Nat} (hq : Mex (kn A (l : Int) 60) q) (hq60 : q < 60) (b : Bool) (hw : wrong tr (A ++ [((q : Int), b)]) ≤ l) : Liar tr (A ++ [((q : Int), b)]) l := by
  have ht : told A (l : Int) q = none := by
    cases hh : told A (l : Int) q with
    | none => rfl
    | some a => exact absurd (List.mem_filter.mpr ⟨R_mem.mpr (by omega), by rw [hh]; rfl⟩) hq.1
  refine ⟨hw, fun s => ?_, fun q' hq' a ha => ?_⟩
  · rw [right_snoc]
    by_cases hs : (q : Int) = s
    · subst hs
      have := told_none_le tr ht
      split <;> omega
    · rw [if_neg (fun z => hs z.1)]
      exact h.r s
  · have hm := mex_mono hq hq'
    rcases List.mem_append.mp ha with z | z
    · have := h.q q hq a z
      omega
    · rw [List.mem_singleton.mp z]
      show 0 ≤ (q : Int) ∧ (q : Int) ≤ q'
      omega
/-- so many answers, so many known -/
theorem Liar.known_ge {A : Ans} {l m : Nat} (h : Liar tr A l) (hl : m * (l + 1) + l ≤ A.length) {q : Nat} (hq : Mex (kn A (l : Int) 60) q) (hq60 : q < 60) : m ≤ q := by
  refine Classical.byContradiction fun hm => ?_
  have hs := sum_right tr (n := q + 1) (A := A) (fun a ha => R_mem.mpr (by have := h.q q hq a ha; omega))
  have hsum : ∀ k : Nat, ((R_ k).map (right tr A)).sum ≤ k * (l + 1) := by
    intro k
    induction k with
    | zero => simp [R_]
    | succ k ih =>
      rw [R_succ, List.map_append, List.sum_append]
      have := h.r k
      simp only [List.map_cons, List.map_nil, List.sum_cons, List.sum_nil]
      rw [Nat.succ_mul]
      omega
  have ht : told A (l : Int) q = none := by
    cases hh : told A (l : Int) q with
    | none => rfl
    | some a => exact absurd (List.mem_filter.mpr ⟨R_mem.mpr (by omega), by rw [hh]; rfl⟩) hq.1
  have h1 := told_none_le tr ht
  have h2 := hsum q
  rw [R_succ, List.map_append, List.sum_append] at hs
  simp only [List.map_cons, List.map_nil, List.sum_cons, List.sum_nil] at hs
  have h3 := h.w
  have h4 : q * (l + 1) + (l + 1) ≤ m * (l + 1) := by
    rw [← Nat.succ_mul]
    exact Nat.mul_le_mul_right _ (by omega)
  omega
theorem Liar.known {A : Ans} {l m : Nat} (h : Liar tr A l) (hl : A.length = m * (l + 1) + l) {q : Nat} (hq : Mex (kn A (l : Int) 60) q) (hq60 : q < 60) : m ≤ q := h.known_ge tr (by omega) hq hq60
end
end Pf
set_option maxHeartbeats 1000000
namespace Pf
open PySem L2 Ev
/-! sets of numbers by a prefix and a cycle, in plain Lean -/
/-- is x in the set -/
def has (p c : List Nat) (x : Nat) : Bool := if x < p.length then p[x]? == some 49 else c[x % c.length]? == some 49
/-- k times over -/
def rept (c : List Nat) (k : Nat) : List Nat := (List.replicate k c).flatten
theorem rept_len (c : List Nat) (k : Nat) : (rept c k).length = k * c.length := by
  unfold rept
  induction k with
  | zero => simp
  | succ k ih => rw [List.replicate_succ, List.flatten_cons, List.length_append, ih, Nat.succ_mul]; omega
theorem rept_get (c : List Nat) : ∀ (k i : Nat), i < k * c.length → (rept c k)[i]? = c[i % c.length]?
  | 0, i, h => by simp at h
  | k + 1, i, h => by
    have e : rept c (k + 1) = c ++ rept c k := by unfold rept; rw [List.replicate_succ, List.flatten_cons]
    rw [e]
    by_cases hi : i < c.length
    · rw [List.getElem?_append_left hi, Nat.mod_eq_of_lt hi]
    · rw [List.getElem?_append_right (by omega), rept_get c k (i - c.length) (by rw [Nat.succ_mul] at h; omega)]
      congr 1
      conv => rhs; rw [show i = (i - c.length) + c.length by omega, Nat.add_mod_right]
/-- the least cycle -/
def lcB (c : List Nat) (l : Nat) : Bool := c.length % l == 0 && c == rept (c.take l) (c.length / l)
def lcyc (c : List Nat) : List Nat := match (List.range' 1 (c.length - 1)).find? (lcB c) with
  | some l => c.take l
  | none => c
/-- what a shorter cycle says -/
structure Cy (c d : List Nat) : Prop where
  ne : d ≠ []
  dv : d.length ∣ c.length
  at_ : ∀ x, d[x % d.length]? = c[x % c.length]?
  sub : ∀ y ∈ d, y ∈ c
theorem Cy.refl {c : List Nat} (h : c ≠ []) : Cy c c := ⟨h, Nat.dvd_refl _, fun _ => rfl, fun _ h => h⟩
theorem cy_take {c : List Nat} (hc : c ≠ []) {l : Nat} (h1 : 1 ≤ l) (h2 : l < c.length) (h : lcB c l = true) : Cy c (c.take l) := by
  unfold lcB at h
  rw [Bool.and_eq_true, beq_iff_eq, beq_iff_eq] at h
  obtain ⟨hd, he⟩ := h
  have hl : (c.take l).length = l := by rw [List.length_take]; omega
  refine ⟨fun z => ?_, by rw [hl]; exact Nat.dvd_of_mod_eq_zero hd, fun x => ?_, fun y hy => List.mem_of_mem_take hy⟩
  · rw [z] at hl
    simp at hl
    omega
  · have hx : x % c.length < c.length := Nat.mod_lt _ (by omega)
    have hq : c.length / l * l = c.length := Nat.div_mul_cancel (Nat.dvd_of_mod_eq_zero hd)
    have q := rept_get (c.take l) (c.length / l) (x % c.length) (by rw [hl, hq]; exact hx)
    rw [← he, hl, Nat.mod_mod_of_dvd _ (Nat.dvd_of_mod_eq_zero hd)] at q
    rw [hl, q]
theorem lcyc_cy {c : List Nat} (hc : c ≠ []) : Cy c (lcyc c) := by
  unfold lcyc
  split
  · rename_i l h
    have hm := List.mem_of_find?_eq_some h
    rw [List.mem_range'_1] at hm
    exact cy_take hc hm.1 (by omega) (by simpa using List.find?_some h)
  · exact Cy.refl hc
/-- the least prefix with a cycle -/
def lpN (p c : List Nat) : Nat → Nat
  | 0 => 0
  | n + 1 => if p[n]? = c[n % c.length]? then lpN p c n else n + 1
def lpre (p c : List Nat) : List Nat := p.take (lpN p c p.length)
theorem lpN_le (p c : List Nat) : ∀ n, lpN p c n ≤ n
  | 0 => Nat.le_refl _
  | n + 1 => by
    unfold lpN
    split
    · exact Nat.le_succ_of_le (lpN_le p c n)
    · exact Nat.le_refl _
theorem lpN_eq (p c : List Nat) : ∀ (n x : Nat), lpN p c n ≤ x → x < n → p[x]? = c[x % c.length]?
  | 0, x, _, h => absurd h (Nat.not_lt_zero _)
  | n + 1, x, h1, h2 => by
    unfold lpN at h1
    split at h1
    · rename_i e
      by_cases hx : x = n
      · rw [hx]; exact e
      · exact lpN_eq p c n x h1 (by omega)
    · omega
theorem lpre_len (p c : List Nat) : (lpre p c).length = lpN p c p.length := by
  unfold lpre
  rw [List.length_take]
  exact Nat.min_eq_left (lpN_le p c _)
theorem has_lpre (p c : List Nat) (x : Nat) : has (lpre p c) c x = has p c x := by
  unfold has
  rw [lpre_len]
  by_cases h1 : x < lpN p c p.length
  · have := lpN_le p c p.length
    rw [if_pos h1, if_pos (by omega)]
    unfold lpre
    rw [List.getElem?_take_of_lt h1]
  · rw [if_neg h1]
    by_cases h2 : x < p.length
    · rw [if_pos h2, lpN_eq p c _ x (by omega) h2]
    · rw [if_neg h2]
theorem has_cy {p c d : List Nat} (h : Cy c d) (x : Nat) : has p d x = has p c x := by
  unfold has
  rw [h.at_]
theorem has_least {p c : List Nat} (hc : c ≠ []) (x : Nat) : has (lpre p (lcyc c)) (lcyc c) x = has p c x := by rw [has_lpre, has_cy (lcyc_cy hc)]
theorem lpre_sub {p c : List Nat} {y : Nat} (h : y ∈ lpre p c) : y ∈ p := List.mem_of_mem_take h
theorem lcyc_len_le {c : List Nat} (hc : c ≠ []) : (lcyc c).length ≤ c.length := Nat.le_of_dvd (by have := List.length_pos_iff.mpr hc; omega) (lcyc_cy hc).dv
theorem lpre_len_le (p c : List Nat) : (lpre p c).length ≤ p.length := by rw [lpre_len]; exact lpN_le _ _ _
/-! bits of texts -/
theorem bit_ok {s : List Nat} (h : Bits s) : ∀ c ∈ s, c < 0x110000 := fun c hc => bits_lt' (h c hc)
where bits_lt' {c : Nat} (h : c = 48 ∨ c = 49) : c < 0x110000 := by omega
theorem Bits.take {s : List Nat} (h : Bits s) (n : Nat) : Bits (s.take n) := fun c hc => h c (List.mem_of_mem_take hc)
theorem Bits.app {s t : List Nat} (h : Bits s) (k : Bits t) : Bits (s ++ t) := fun c hc => (List.mem_append.mp hc).elim (h c) (k c)
theorem Bits.rept {s : List Nat} (h : Bits s) (k : Nat) : Bits (rept s k) := fun c hc => by
  unfold Pf.rept at hc
  obtain ⟨l, hl, hcl⟩ := List.mem_flatten.mp hc
  rw [List.eq_of_mem_replicate hl] at hcl
  exact h c hcl
/-- 10 ** 6 at most -/
abbrev Few (s : List Nat) : Prop := s.length ≤ 100000
theorem is_bits_ok {s : List Nat} (h : Bits s) (hl : Few s) : Φ_is_bits [.str s] = .ok (.bl true, true) := by
  have e := lcF_fm (h := hName 1) (b := true) (t := tTrue) (el := e2 (gC cInA) (eVar 1) (eLit (.str [48, 49]))) (ρ := wipeE [.sh (.str s) true, .un] [1]) (fun _ => true) (fun _ => .bl true) (ds := s.map fun c => .str [c]) (fun d hd => by
    obtain ⟨c, hc, rfl⟩ := List.mem_map.mp hd
    refine ⟨[.sh (.str s) true, .sh (.str [c]) true], by simp [wipeE], rfl, fun _ => ⟨.pl, true, ?_, rfl, rfl⟩⟩
    have : c = 48 ∨ c = 49 := h c hc
    simp [in_s, this])
  rw [show List.filter (fun _ => true) (s.map fun c => D.str [c]) = s.map fun c => D.str [c] from List.filter_eq_self.mpr fun _ _ => rfl] at e
  refine bodyR_ret (g := g_is_bits) (n := 2) (ds := [.str s]) (a := ⟨.bl true, .pl, true⟩) ?_
  show g_is_bits [.sh (.str s) true, .un] = _
  unfold g_is_bits
  have el : eLc (iAll (eVar 0)) (hName 1) tTrue (e2 (gC cInA) (eVar 1) (eLit (.str [48, 49]))) [1] [.sh (.str s) true, .un] = .ok ⟨.lst (s.map fun _ => .bl true), .nw, true⟩ := by
    rw [lc_at (a := ⟨s.map fun c => .str [c], true, false⟩) (by simp) rfl (by simp; omega) e]
    simp [Function.comp_def]
  have eb : bls? (s.map fun _ => D.bl true) = some (s.map fun _ => true) := by
    clear e el h hl
    induction s with
    | nil => rfl
    | cons c s ih => simp [bls?, ih]
  have ea : gAll ⟨.lst (s.map fun _ => D.bl true), .nw, true⟩ = .ok ⟨.bl true, .pl, true⟩ := by
    unfold gAll
    show ofO (some _) _ = _
    rw [ofO_some, eb]
    simp
  rw [seq_ap, if_ap]
  simp [tt_str, el, ea]
theorem least_cycle_ok {c : List Nat} (h : Bits c) (hc : c ≠ []) (hl : Few c) : Φ_least_cycle [.str c] = .ok (.str (lcyc c), true) := by
  have hpos := List.length_pos_iff.mpr hc
  have hlen : gLen ⟨.str c, .pl, true⟩ = .ok ⟨.int c.length, .pl, true⟩ := gLen_s (by omega)
  have body : ∀ l : Nat, 1 ≤ l → l < c.length → b_least_cycle_1 [.sh (.str c) true, .sh (.int l) true] = if lcB c l = true then .ret ⟨.str (c.take l), .pl, true⟩ else .next [.sh (.str c) true, .sh (.int l) true] := fun l h1 h2 => by
    unfold b_least_cycle_1
    rw [if_ap]
    have em : gModI ⟨.int c.length, .pl, true⟩ ⟨.int l, .pl, true⟩ = .ok ⟨.int ((c.length : Int) % l), .pl, true⟩ := gMod_i (by omega)
    have ed : gDivI ⟨.int c.length, .pl, true⟩ ⟨.int l, .pl, true⟩ = .ok ⟨.int ((c.length : Int) / l), .pl, true⟩ := gDiv_i (by omega)
    have hq : ((c.length : Int) / l) = ((c.length / l : Nat) : Int) := by simp
    have hle : c.length / l ≤ c.length := Nat.div_le_self _ _
    have hml : c.length / l * l ≤ c.length := Nat.div_mul_le_self _ _
    have es : gMul ⟨.str (c.take l), .pl, true⟩ ⟨.int ((c.length : Int) / l), .pl, true⟩ = .ok ⟨.str (rept (c.take l) (c.length / l)), .pl, true⟩ := by
      rw [hq]
      clear hq em ed
      generalize c.length / l = K at hle hml ⊢
      have q := gMul_s (s := c.take l) (x := (K : Int)) (m := .pl) (m' := .pl) (b := true) (b' := true) ⟨by omega, by omega, by rw [List.length_take, Int.toNat_natCast, Nat.min_eq_left (by omega), Nat.mul_comm]; omega⟩
      rw [q, Int.toNat_natCast]
      rfl
    have ecut : cut c none (some (l : Int)) = c.take l := cut_to c (by omega)
    have esl : gSl ⟨.str c, .pl, true⟩ none (some (l : Int)) = .ok ⟨.str (c.take l), .pl, true⟩ := by rw [gSl_s (by omega), ecut]
    have eq1 : cEq ⟨.int ((c.length : Int) % l), .pl, true⟩ ⟨.int 0, .pl, true⟩ = some (c.length % l == 0) := by
      rw [cEq_i, Option.some.injEq, Bool.eq_iff_iff, decide_eq_true_iff, beq_iff_eq]
      omega
    have eq2 : cEq ⟨.str c, .pl, true⟩ ⟨.str (rept (c.take l) (c.length / l)), .pl, true⟩ = some (c == rept (c.take l) (c.length / l)) := by
      rw [cEq_str (bit_ok h) (bit_ok ((h.take l).rept _)), Option.some.injEq, Bool.eq_iff_iff, decide_eq_true_iff, beq_iff_eq]
    unfold lcB
    cases hb1 : (c.length % l == 0) with
    | false => simp [hlen, em, eq1, hb1]
    | true =>
      cases hb2 : (c == rept (c.take l) (c.length / l)) with
      | false => simp [hlen, em, eq1, hb1, ed, es, esl, eq2, hb2]
      | true => simp [hlen, em, eq1, hb1, ed, es, esl, eq2, hb2]
  have run : ∀ (n k : Nat) (x : SV), 1 ≤ k → k + n = c.length → loopF (hName 1) true b_least_cycle_1 ((List.range' k n).map fun (i : Nat) => D.int i) [.sh (.str c) true, x] = (match (List.range' k n).find? (lcB c) with
      | some l => .ret ⟨.str (c.take l), .pl, true⟩
      | none => .next [.sh (.str c) true, if n = 0 then x else .sh (.int ((c.length - 1 : Nat) : Int)) true]) := by
    intro n
    induction n with
    | zero => intro k x h1 h2; rfl
    | succ n ih =>
      intro k x h1 h2
      rw [List.range'_succ, List.map_cons, List.find?_cons]
      have e0 : loopF (hName 1) true b_least_cycle_1 (D.int k :: (List.range' (k + 1) n).map fun (i : Nat) => D.int i) [.sh (.str c) true, x] = (match b_least_cycle_1 [.sh (.str c) true, .sh (.int k) true] with
          | .next ρ2 => loopF (hName 1) true b_least_cycle_1 ((List.range' (k + 1) n).map fun (i : Nat) => D.int i) ρ2
          | .cont ρ2 => loopF (hName 1) true b_least_cycle_1 ((List.range' (k + 1) n).map fun (i : Nat) => D.int i) ρ2
          | .brk ρ2 => .next ρ2
          | o => o) := by
        rw [loopF]
        rfl
      rw [e0, body k h1 (by omega)]
      cases hb : lcB c k with
      | true => simp
      | false =>
        rw [if_neg (by decide)]
        show loopF (hName 1) true b_least_cycle_1 ((List.range' (k + 1) n).map fun (i : Nat) => D.int i) _ = _
        rw [ih (k + 1) _ (by omega) (by omega)]
        cases (List.range' (k + 1) n).find? (lcB c) with
        | some l => rfl
        | none =>
          by_cases hn : n = 0
          · subst hn
            rw [if_pos rfl, if_neg (by omega)]
            rw [show c.length - 1 = k by omega]
          · rw [if_neg hn, if_neg (by omega)]
  have er : (rng 1 (c.length - 1)) = (List.range' 1 (c.length - 1)).map fun (i : Nat) => D.int i := by
    unfold rng
    rw [List.range'_eq_map_range, List.map_map]
    refine List.map_congr_left fun i _ => ?_
    simp
  have it : iR2 (eLit (.int 1)) (e1 gLen (eVar 0)) [.sh (.str c) true, .un] = .ok ⟨rng 1 (c.length - 1), true, false⟩ := by
    unfold iR2
    simp only [lit_ap, bind_ok', e1_ap, var_0, slV_sh, sc_str, Bool.or_true, hlen, cInt, ofO_some]
    rw [if_pos (by omega)]
    rw [show ((c.length : Int) - 1).toNat = c.length - 1 by omega]
  refine bodyR_ret (g := g_least_cycle) (n := 2) (ds := [.str c]) (a := ⟨.str (lcyc c), .pl, true⟩) ?_
  show g_least_cycle [.sh (.str c) true, .un] = _
  unfold g_least_cycle
  rw [seq_ap, for_ap, it, out_ok]
  simp only [Bool.false_eq_true, if_false]
  show (loopF (hName 1) true b_least_cycle_1 (rng 1 (c.length - 1)) _).then _ = _
  rw [er, run (c.length - 1) 1 .un (by omega) (by omega)]
  unfold lcyc
  cases hf : (List.range' 1 (c.length - 1)).find? (lcB c) with
  | some l => simp
  | none => simp
theorem least_prefix_ok {p c : List Nat} (hp : Bits p) (h : Bits c) (hc : c ≠ []) (hlp : p.length ≤ 90000) (hl : Few c) : Φ_least_prefix [.str p, .str c] = .ok (.str (lpre p c), true) := by
  have hpos := List.length_pos_iff.mpr hc
  obtain ⟨ρ', e, rfl⟩ := while_run (t := tAnd' (t2 cGt (eVar 2) (eLit (.int 0))) (t2 cEq (e2 gAt (eVar 0) (e2 gSubI (eVar 2) (eLit (.int 1)))) (e2 gAt (eVar 1) (e2 gModI (e2 gSubI (eVar 2) (eLit (.int 1))) (e1 gLen (eVar 1)))))) (g := b_least_prefix_1)
    (fun n ρ => ρ = [.sh (.str p) true, .sh (.str c) true, .sh (.int n) true] ∧ n ≤ p.length ∧ lpN p c n = lpN p c p.length) (fun ρ => ρ = [.sh (.str p) true, .sh (.str c) true, .sh (.int (lpN p c p.length)) true]) (fun n ρ ⟨hρ, hn, he⟩ => by
      subst hρ
      cases n with
      | zero => exact .inl ⟨by simp, by rw [← he]; rfl⟩
      | succ n =>
        have e0 : (((n + 1 : Nat) : Int) - 1) = (n : Int) := by omega
        obtain ⟨a, ha⟩ : ∃ a, p[n]? = some a := ⟨_, List.getElem?_eq_getElem (by omega)⟩
        obtain ⟨b, hb⟩ : ∃ b, c[n % c.length]? = some b := ⟨_, List.getElem?_eq_getElem (Nat.mod_lt _ hpos)⟩
        have g1 : gAt ⟨.str p, .pl, true⟩ ⟨.int (n : Int), .pl, true⟩ = .ok ⟨.str [a], .pl, true⟩ := gAt_s (by rw [atI_eq rfl]; exact ha) (by omega)
        have g2 : gAt ⟨.str c, .pl, true⟩ ⟨.int ((n : Int) % c.length), .pl, true⟩ = .ok ⟨.str [b], .pl, true⟩ := gAt_s (by rw [atI_eq (k := n % c.length) (by simp)]; exact hb) (by omega)
        have gl : gLen ⟨.str c, .pl, true⟩ = .ok ⟨.int c.length, .pl, true⟩ := gLen_s (by omega)
        have gm : gModI ⟨.int (n : Int), .pl, true⟩ ⟨.int c.length, .pl, true⟩ = .ok ⟨.int ((n : Int) % c.length), .pl, true⟩ := gMod_i (by omega)
        have ge : cEq ⟨.str [a], .pl, true⟩ ⟨.str [b], .pl, true⟩ = some (decide (a = b)) := cEq_s (bit_ok hp a (List.mem_of_getElem? ha)) (bit_ok h b (List.mem_of_getElem? hb))
        have gt : (0 : Int) < ((n + 1 : Nat) : Int) := by omega
        have he : (if p[n]? = c[n % c.length]? then lpN p c n else n + 1) = lpN p c p.length := he
        rw [ha, hb] at he
        by_cases hab : a = b
        · subst hab
          rw [if_pos rfl] at he
          refine .inr ⟨?_, [.sh (.str p) true, .sh (.str c) true, .sh (.int n) true], n, ?_, by omega, rfl, by omega, he⟩
          · simp only [tAnd_ap, t2_ap, var_s, var_0, slV_sh, sc_int, sc_str, Bool.or_true, bind_ok', lit_ap, cGt_i, ofO_some, e2_ap, e1_ap, gSub_i, e0, g1, g2, gl, gm, ge, decide_true, gt, if_true]
          · unfold b_least_prefix_1
            rw [aug_sh (x := ((n + 1 : Nat) : Int)) (b := true) rfl, lit_ap, out_ok]
            simp
        · rw [if_neg (fun z => hab (Option.some.inj z))] at he
          refine .inl ⟨?_, by rw [← he]⟩
          simp only [tAnd_ap, t2_ap, var_s, var_0, slV_sh, sc_int, sc_str, Bool.or_true, bind_ok', lit_ap, cGt_i, ofO_some, e2_ap, e1_ap, gSub_i, e0, g1, g2, gl, gm, ge, gt, decide_true, if_true, decide_eq_false hab])
    100000 p.length [.sh (.str p) true, .sh (.str c) true, .sh (.int p.length) true] (by omega) ⟨rfl, Nat.le_refl _, rfl⟩
  have hle := lpN_le p c p.length
  refine bodyR_ret (g := g_least_prefix) (n := 3) (ds := [.str p, .str c]) (a := ⟨.str (lpre p c), .pl, true⟩) ?_
  show g_least_prefix [.sh (.str p) true, .sh (.str c) true, .un] = _
  unfold g_least_prefix
  refine seq_nx (ρ1 := [.sh (.str p) true, .sh (.str c) true, .sh (.int p.length) true]) (by simp [gLen_s (show p.length ≤ 1000000 by omega)]) (seq_nx e ?_)
  have es : gSl ⟨.str p, .pl, true⟩ none (some (lpN p c p.length : Int)) = .ok ⟨.str (lpre p c), .pl, true⟩ := by rw [gSl_s (by omega), cut_to p hle]; rfl
  simp [es]
end Pf
set_option maxHeartbeats 1000000
namespace Pf
open PySem L2 Ev
/-! sets, bands, families made -/
abbrev PSo (p c : List Nat) : D := .obj 35 [.str c, .str p]
/-- the least form -/
def least (q : List Nat × List Nat) : List Nat × List Nat := (lpre q.1 (lcyc q.2), lcyc q.2)
structure WP (p c : List Nat) : Prop where
  bp : Bits p
  bc : Bits c
  ne : c ≠ []
  lp : p.length ≤ 90000
  lc : Few c
theorem few_of {s : List Nat} (h : s.length ≤ 90000) : Few s := by unfold Few; omega
theorem Bits.sub {s t : List Nat} (h : Bits s) (k : ∀ c ∈ t, c ∈ s) : Bits t := fun c hc => h c (k c hc)
theorem WP.least {p c : List Nat} (w : WP p c) : WP (lpre p (lcyc c)) (lcyc c) :=
  ⟨w.bp.sub fun _ h => lpre_sub h, w.bc.sub (lcyc_cy w.ne).sub, (lcyc_cy w.ne).ne, Nat.le_trans (lpre_len_le _ _) w.lp, Nat.le_trans (lcyc_len_le w.ne) w.lc⟩
theorem ps_init {p c : List Nat} (w : WP p c) : Φ_PeriodicSet___init__ [.str p, .str c] = .ok ([.str (lcyc c), .str (lpre p (lcyc c))], true) := by
  have wl := w.least
  refine initR_ok (ρ' := [.ow (.obj 35 [.str (lcyc c), .str (lpre p (lcyc c))]) true, .sh (.str p) true, .sh (.str c) true]) ?_ rfl
  show g_PeriodicSet___init__ [.ow (.obj 35 []) true, .sh (.str p) true, .sh (.str c) true] = _
  have c1 : callR Φ_is_bits [⟨.str p, .pl, true⟩] [] = .ok ⟨.bl true, .pl, true⟩ := callR_new (is_bits_ok w.bp (few_of w.lp))
  have c2 : callR Φ_is_bits [⟨.str c, .pl, true⟩] [] = .ok ⟨.bl true, .pl, true⟩ := callR_new (is_bits_ok w.bc w.lc)
  have c3 : callR Φ_least_cycle [⟨.str c, .pl, true⟩] [] = .ok ⟨.str (lcyc c), .pl, true⟩ := callR_new (least_cycle_ok w.bc w.ne w.lc)
  have c4 : callR Φ_least_prefix [⟨.str p, .pl, true⟩, ⟨.str (lcyc c), .pl, true⟩] [] = .ok ⟨.str (lpre p (lcyc c)), .pl, true⟩ := callR_new (least_prefix_ok w.bp wl.bc wl.ne w.lp wl.lc)
  have e5 : cEq ⟨.str c, .pl, true⟩ ⟨.str [], .pl, true⟩ = some false := by
    rw [cEq_str (bit_ok w.bc) (by simp), decide_eq_false w.ne]
  unfold g_PeriodicSet___init__
  refine seq_nx (ρ1 := [.ow (.obj 35 []) true, .sh (.str p) true, .sh (.str c) true]) (by rw [if_ap]; simp [c1, c2, e5]) ?_
  refine seq_nx (ρ1 := [.ow (.obj 35 [.str (lcyc c)]) true, .sh (.str p) true, .sh (.str c) true]) ?_ ?_
  · rw [fld_at (i := 0) (c := 35) (k := 0) (l := []) (g := true) rfl rfl]
    simp [c3]
  · rw [fld_at (i := 0) (c := 35) (k := 1) (l := [.str (lcyc c)]) (g := true) rfl rfl]
    simp [c4]
theorem new_ps {p c : List Nat} (w : WP p c) {b b' : Bool} : newR 35 Φ_PeriodicSet___init__ [⟨.str p, .pl, b⟩, ⟨.str c, .pl, b'⟩] [] = .ok ⟨PSo (lpre p (lcyc c)) (lcyc c), .pl, true⟩ :=
  newR_ok (ds := [.str p, .str c]) rfl (ps_init w)
/-! rows and bands -/
abbrev Row := List Nat × Nat × List Nat
abbrev rowT (r : Row) : D := .tup [.str r.1, .str [r.2.1], .str r.2.2]
abbrev rowL (r : Row) : D := .lst [.str r.1, .str [r.2.1], .str r.2.2]
structure WRow (p : Nat) (r : Row) : Prop where
  b1 : Bits r.1
  l1 : r.1.length = p
  a : r.2.1 = 48 ∨ r.2.1 = 49
  b2 : Bits r.2.2
  l2 : r.2.2.length = p
  one : 49 ∈ r.2.2
abbrev bandD (p : Nat) (b : List Row) : D := .obj 13 [.int p, .tup (b.map rowT)]
theorem row_ok {p : Nat} {r : Row} (w : WRow p r) (hp : p ≤ 1000) : Φ_checked_row [rowT r, .int p] = .ok (rowT r, true) := by
  have w1 := w.l1
  have w2 := w.l2
  have c1 : callR Φ_is_bits [⟨.str r.1, .pl, true⟩] [] = .ok ⟨.bl true, .pl, true⟩ := callR_new (is_bits_ok w.b1 (by unfold Few; omega))
  have c2 : callR Φ_is_bits [⟨.str [r.2.1], .pl, true⟩] [] = .ok ⟨.bl true, .pl, true⟩ := callR_new (is_bits_ok (fun c hc => by rw [List.mem_singleton.mp hc]; exact w.a) (by simp [Few]))
  have c3 : callR Φ_is_bits [⟨.str r.2.2, .pl, true⟩] [] = .ok ⟨.bl true, .pl, true⟩ := callR_new (is_bits_ok w.b2 (by unfold Few; omega))
  have e1 : gLen ⟨.str r.1, .pl, true⟩ = .ok ⟨.int p, .pl, true⟩ := by rw [gLen_s (by omega), w1]
  have e2' : gLen ⟨.str [r.2.1], .pl, true⟩ = .ok ⟨.int 1, .pl, true⟩ := by rw [gLen_s (by simp)]; rfl
  have e3 : gLen ⟨.str r.2.2, .pl, true⟩ = .ok ⟨.int p, .pl, true⟩ := by rw [gLen_s (by omega), w2]
  have a0 : gAt ⟨rowT r, .pl, false⟩ ⟨.int 0, .pl, true⟩ = .ok ⟨.str r.1, .pl, true⟩ := rfl
  have a1 : gAt ⟨rowT r, .pl, false⟩ ⟨.int 1, .pl, true⟩ = .ok ⟨.str [r.2.1], .pl, true⟩ := rfl
  have a2 : gAt ⟨rowT r, .pl, false⟩ ⟨.int 2, .pl, true⟩ = .ok ⟨.str r.2.2, .pl, true⟩ := rfl
  refine bodyR_ret (g := g_checked_row) (n := 3) (ds := [rowT r, .int p]) (a := ⟨rowT r, .pl, true⟩) ?_
  show g_checked_row [.sh (rowT r) false, .sh (.int p) true, .un] = _
  unfold g_checked_row
  refine seq_nx (ρ1 := [.sh (rowT r) false, .sh (.int p) true, .un]) (by rw [if_ap]; simp [tt_list_tuple, cNe_i]) ?_
  obtain ⟨x, e⟩ := loop_keep (h := hName 2) (b := false) (g := b_checked_row_1) (fun x => [.sh (rowT r) false, .sh (.int p) true, x]) [.str r.1, .str [r.2.1], .str r.2.2] .un fun d hd x => by
    refine ⟨[.sh (rowT r) false, .sh (.int p) true, .sh d true], .sh d true, ?_, ?_⟩
    · simp at hd
      rcases hd with rfl | rfl | rfl <;> simp
    · unfold b_checked_row_1
      rw [if_ap]
      simp at hd
      rcases hd with rfl | rfl | rfl <;> simp [c1, c2, c3]
  refine seq_nx (ρ1 := [.sh (rowT r) false, .sh (.int p) true, x]) (by rw [for_ap]; simp [e]) ?_
  refine seq_nx (ρ1 := [.sh (rowT r) false, .sh (.int p) true, x]) ?_ ?_
  · rw [if_ap]
    simp [a0, a1, a2, e1, e2', e3, cNe_i, nin_s, w.one]
  · simp [a0, a1, a2]
theorem band_init {p : Nat} {b : List Row} (hb : b.length = p) (h1 : 1 ≤ p) (h4 : p ≤ 4) (w : ∀ r ∈ b, WRow p r) {m : Bool} : Φ_Band___init__ [.lst (b.map rowT)] = .ok ([.int p, .tup (b.map rowT)], true) := by
  refine initR_ok (ρ' := [.ow (bandD p b) true, .sh (.lst (b.map rowT)) false, .un]) ?_ rfl
  show g_Band___init__ [.ow (.obj 13 []) true, .sh (.lst (b.map rowT)) false, .un] = _
  have e := lcF_fm (h := hName 2) (b := false) (t := tTrue) (el := eCall Φ_checked_row 2 [] (aCons (eVar 2) (aCons (e1 gLen (eVar 1)) aNil))) (ρ := [.ow (.obj 13 [.int p]) true, .sh (.lst (b.map rowT)) false, .un]) (fun _ => true) (fun d => d) (ds := b.map rowT) (fun d hd => by
    obtain ⟨r, hr, rfl⟩ := List.mem_map.mp hd
    have c1 : callR Φ_checked_row [⟨rowT r, .pl, false⟩, ⟨.int p, .pl, true⟩] [] = .ok ⟨rowT r, .pl, true⟩ := callR_new (row_ok (w r hr) (by omega))
    refine ⟨[.ow (.obj 13 [.int p]) true, .sh (.lst (b.map rowT)) false, .sh (rowT r) false], by simp, rfl, fun _ => ⟨.pl, true, ?_, rfl, rfl⟩⟩
    simp [hb, c1])
  rw [show List.filter (fun _ => true) (b.map rowT) = b.map rowT from List.filter_eq_self.mpr fun _ _ => rfl, List.map_id''  (fun _ => rfl)] at e
  unfold g_Band___init__
  refine seq_nx (ρ1 := [.ow (.obj 13 []) true, .sh (.lst (b.map rowT)) false, .un]) ?_ ?_
  · rw [if_ap]
    have l1 : decide ((1 : Int) ≤ (b.length : Int)) = true := by simp; omega
    have l4 : decide ((b.length : Int) ≤ 4) = true := by simp; omega
    simp [tt_list_tuple, l1, l4]
  refine seq_nx (ρ1 := [.ow (.obj 13 [.int p]) true, .sh (.lst (b.map rowT)) false, .un]) ?_ ?_
  · rw [fld_at (i := 0) (c := 13) (k := 0) (l := []) (g := true) rfl rfl]
    simp [hb]
  · rw [fld_at (i := 0) (c := 13) (k := 1) (l := [.int p]) (g := true) rfl rfl]
    have hall : iAll (eVar 1) [.ow (.obj 13 [.int p]) true, .sh (.lst (b.map rowT)) false, .un] = .ok ⟨b.map rowT, false, false⟩ := by simp [isBo]
    have el : eLc (iAll (eVar 1)) (hName 2) tTrue (eCall Φ_checked_row 2 [] (aCons (eVar 2) (aCons (e1 gLen (eVar 1)) aNil))) [2] [.ow (.obj 13 [.int p]) true, .sh (.lst (b.map rowT)) false, .un] = .ok ⟨.lst (b.map rowT), .nw, true⟩ := lc_at (p := (b.map rowT, true)) (a := ⟨b.map rowT, false, false⟩) hall rfl (by show (b.map rowT).length ≤ 1000000; rw [List.length_map]; omega) e
    simp [el]
theorem new_band {p : Nat} {b : List Row} (hb : b.length = p) (h1 : 1 ≤ p) (h4 : p ≤ 4) (w : ∀ r ∈ b, WRow p r) {k : Bool} {m : Mk3} (hm : m ≠ .bo) : newR 13 Φ_Band___init__ [⟨.lst (b.map rowT), m, k⟩] [] = .ok ⟨bandD p b, .pl, true⟩ := by
  refine newR_ok (ds := [.lst (b.map rowT)]) (k := k) ?_ (band_init hb h1 h4 w (m := true))
  cases m with
  | bo => exact absurd rfl hm
  | pl => simp
  | nw => simp
/-! families -/
abbrev famD (p : Nat) (fx : List (List Nat × List Nat)) (bs : List (List Row)) : D := .obj 18 [.int p, .tup (fx.map fun q => PSo q.1 q.2), .tup (bs.map (bandD p))]
structure WFix (p : Nat) (q : List Nat × List Nat) : Prop where
  bp : Bits q.1
  bc : Bits q.2
  one : 49 ∈ q.2
  lp : q.1.length ≤ 12
  dv : q.2.length ∣ p
structure WFam (p : Nat) (fx : List (List Nat × List Nat)) (bs : List (List Row)) : Prop where
  p1 : 1 ≤ p
  p4 : p ≤ 4
  hf : ∀ q ∈ fx, WFix p q
  bl : ∀ b ∈ bs, b.length = p
  bd : ∀ b ∈ bs, ∀ r ∈ b, WRow p r
  f6 : fx.length ≤ 6
  b2 : bs.length ≤ 2
  ne : fx.length + bs.length ≠ 0
theorem WFix.ne {p : Nat} {q : List Nat × List Nat} (w : WFix p q) : q.2 ≠ [] := fun z => by have := w.one; rw [z] at this; cases this
theorem WFix.pos {p : Nat} {q : List Nat × List Nat} (w : WFix p q) : 0 < q.2.length := List.length_pos_iff.mpr w.ne
theorem inf_ok {p c : List Nat} (h : 49 ∈ c) : Φ_PeriodicSet_is_infinite [PSo p c] = .ok (.bl true, true) := by
  refine bodyR_ret (g := g_PeriodicSet_is_infinite) (n := 1) (ds := [PSo p c]) (a := ⟨.bl true, .pl, true⟩) ?_
  show g_PeriodicSet_is_infinite [.sh (PSo p c) false] = _
  unfold g_PeriodicSet_is_infinite
  simp [in_s, h, List.lookup]
theorem check_fixed_ok {p : Nat} {q : List Nat × List Nat} (w : WFix p q) (hp : p ≤ 4) (h1 : 1 ≤ p) : Φ_check_fixed [.int p, PSo q.1 q.2] = .ok (.non, true) := by
  have hl : q.2.length ≤ p := Nat.le_of_dvd h1 w.dv
  have hpos := w.pos
  have c1 : callR Φ_PeriodicSet_is_infinite [⟨PSo q.1 q.2, .pl, false⟩] [] = .ok ⟨.bl true, .pl, true⟩ := callR_new (inf_ok w.one)
  have e1 : gLen ⟨.str q.2, .pl, true⟩ = .ok ⟨.int q.2.length, .pl, true⟩ := gLen_s (by omega)
  have e2' : gLen ⟨.str q.1, .pl, true⟩ = .ok ⟨.int q.1.length, .pl, true⟩ := gLen_s (by have := w.lp; omega)
  have e3 : gModI ⟨.int p, .pl, true⟩ ⟨.int q.2.length, .pl, true⟩ = .ok ⟨.int 0, .pl, true⟩ := by
    rw [gMod_i (by omega)]
    have : ((p : Int) % q.2.length) = ((p % q.2.length : Nat) : Int) := by simp
    rw [this, Nat.mod_eq_zero_of_dvd w.dv]
    rfl
  have h12 : ¬ (12 : Int) < q.1.length := by have := w.lp; omega
  show bodyR g_check_fixed 2 [.int p, PSo q.1 q.2] = _
  unfold bodyR
  have : g_check_fixed [.sh (.int p) true, .sh (PSo q.1 q.2) false] = .next [.sh (.int p) true, .sh (PSo q.1 q.2) false] := by
    unfold g_check_fixed
    refine seq_nx (ρ1 := [.sh (.int p) true, .sh (PSo q.1 q.2) false]) (by rw [if_ap]; simp [tt_PeriodicSet, c1]) ?_
    rw [if_ap]
    simp [e1, e2', e3, cNe_i, h12, List.lookup]
  show (match g_check_fixed [.sh (.int p) true, .sh (PSo q.1 q.2) false] with
    | .ret a => R.ok (a.d, a.f)
    | .next _ => .ok (.non, true)
    | .exc _ c l => .exc c l
    | _ => .bad) = _
  rw [this]
theorem check_parts_ok {p : Nat} {fx : List (List Nat × List Nat)} {bs : List (List Row)} (w : WFam p fx bs) : Φ_check_parts [.int p, .lst (fx.map fun q => PSo q.1 q.2), .lst (bs.map (bandD p))] = .ok (.non, true) := by
  have h1 := w.p1
  have h4 := w.p4
  have hf := w.f6
  have hb := w.b2
  have hn := w.ne
  let E : SV → SV → En := fun x y => [.sh (.int p) true, .sh (.lst (fx.map fun q => PSo q.1 q.2)) false, .sh (.lst (bs.map (bandD p))) false, x, y]
  obtain ⟨x, ex⟩ := loop_keep (h := hName 3) (b := false) (g := b_check_parts_2) (fun x => E x .un) (fx.map fun q => PSo q.1 q.2) .un fun d hd x => by
    obtain ⟨q, hq, rfl⟩ := List.mem_map.mp hd
    have c1 : callR Φ_check_fixed [⟨.int p, .pl, true⟩, ⟨PSo q.1 q.2, .pl, false⟩] [] = .ok ⟨.non, .pl, true⟩ := callR_new (check_fixed_ok (w.hf q hq) h4 h1)
    refine ⟨E (.sh (PSo q.1 q.2) false) .un, .sh (PSo q.1 q.2) false, by simp [E], ?_⟩
    unfold b_check_parts_2
    simp [E, c1]
  obtain ⟨y, ey⟩ := loop_keep (h := hName 4) (b := false) (g := b_check_parts_1) (fun y => E x y) (bs.map (bandD p)) .un fun d hd y => by
    obtain ⟨b, hb, rfl⟩ := List.mem_map.mp hd
    refine ⟨E x (.sh (bandD p b) false), .sh (bandD p b) false, by simp [E], ?_⟩
    unfold b_check_parts_1
    rw [if_ap]
    simp [E, tt_Band, List.lookup, cNe_i]
  have l1 : ((1 : Int) ≤ (p : Int)) := by omega
  have l4 : ((p : Int) ≤ 4) := by omega
  have k6 : ¬ ((6 : Int) < fx.length) := by omega
  have k2 : ¬ ((2 : Int) < bs.length) := by omega
  have k0 : ¬ ((fx.length : Int) + bs.length = 0) := by omega
  have : g_check_parts (E .un .un) = .next (E x y) := by
    unfold g_check_parts
    refine seq_nx (ρ1 := E .un .un) (by rw [if_ap]; simp [E, tt_int, tt_bool, l1, l4]) ?_
    refine seq_nx (ρ1 := E .un .un) (by rw [if_ap]; simp [E, tt_list_tuple]) ?_
    refine seq_nx (ρ1 := E .un .un) (by rw [if_ap]; simp [E, k6, k2, k0, cEq_i]) ?_
    refine seq_nx (ρ1 := E x .un) ?_ ?_
    · rw [for_ap]
      have hall : iAll (eVar 1) (E .un .un) = .ok ⟨fx.map fun q => PSo q.1 q.2, false, false⟩ := by simp [E, isBo]
      rw [hall]
      exact ex
    · rw [for_ap]
      have hall : iAll (eVar 2) (E x .un) = .ok ⟨bs.map (bandD p), false, false⟩ := by simp [E, isBo]
      rw [hall]
      exact ey
  show (match g_check_parts (E .un .un) with
    | .ret a => R.ok (a.d, a.f)
    | .next _ => .ok (.non, true)
    | .exc _ c l => .exc c l
    | _ => .bad) = _
  rw [this]
theorem fam_init {p : Nat} {fx : List (List Nat × List Nat)} {bs : List (List Row)} (w : WFam p fx bs) : Φ_Family___init__ [.int p, .lst (fx.map fun q => PSo q.1 q.2), .lst (bs.map (bandD p))] = .ok ([.int p, .tup (fx.map fun q => PSo q.1 q.2), .tup (bs.map (bandD p))], false) := by
  have c1 : callR Φ_check_parts [⟨.int p, .pl, true⟩, ⟨.lst (fx.map fun q => PSo q.1 q.2), .pl, false⟩, ⟨.lst (bs.map (bandD p)), .pl, false⟩] [] = .ok ⟨.non, .pl, true⟩ := callR_new (check_parts_ok w)
  refine initR_ok (ρ' := [.ow (famD p fx bs) false, .sh (.int p) true, .sh (.lst (fx.map fun q => PSo q.1 q.2)) false, .sh (.lst (bs.map (bandD p))) false]) ?_ rfl
  show g_Family___init__ [.ow (.obj 18 []) true, .sh (.int p) true, .sh (.lst (fx.map fun q => PSo q.1 q.2)) false, .sh (.lst (bs.map (bandD p))) false] = _
  unfold g_Family___init__
  refine seq_nx (ρ1 := [.ow (.obj 18 []) true, .sh (.int p) true, .sh (.lst (fx.map fun q => PSo q.1 q.2)) false, .sh (.lst (bs.map (bandD p))) false]) (by simp [c1]) ?_
  refine seq_nx (ρ1 := [.ow (.obj 18 [.int p]) true, .sh (.int p) true, .sh (.lst (fx.map fun q => PSo q.1 q.2)) false, .sh (.lst (bs.map (bandD p))) false]) ?_ ?_
  · rw [fld_at (i := 0) (c := 18) (k := 0) (l := []) (g := true) rfl rfl]
    simp
  refine seq_nx (ρ1 := [.ow (.obj 18 [.int p, .tup (fx.map fun q => PSo q.1 q.2)]) false, .sh (.int p) true, .sh (.lst (fx.map fun q => PSo q.1 q.2)) false, .sh (.lst (bs.map (bandD p))) false]) ?_ ?_
  · rw [fld_at (i := 0) (c := 18) (k := 1) (l := [.int p]) (g := true) rfl rfl]
    simp
  · rw [fld_at (i := 0) (c := 18) (k := 2) (l := [.int p, .tup (fx.map fun q => PSo q.1 q.2)]) (g := false) rfl rfl]
    simp
end Pf
set_option maxHeartbeats 1000000
namespace Pf
open PySem L2 Ev
/-! languages -/
/-- is x in the language n of a band -/
def bandHas (p : Nat) (b : List Row) (n x : Nat) : Bool := match b[n % p]? with
  | some r => if x = n then r.2.1 == 49 else if x < n then r.1[x % p]? == some 49 else r.2.2[x % p]? == some 49
  | none => false
/-- is x in the language at a place -/
def lang (p : Nat) (fx : List (List Nat × List Nat)) (bs : List (List Row)) (z x : Nat) : Bool := match fx[z]? with
  | some q => has q.1 q.2 x
  | none => match bs[(z - fx.length) % bs.length]? with
    | some b => bandHas p b ((z - fx.length) / bs.length) x
    | none => false
/-- a place that is there -/
def There (fx : List (List Nat × List Nat)) (bs : List (List Row)) (z : Nat) : Prop := bs = [] → z < fx.length
/-- the first bits of a set -/
def unf (p c : List Nat) (n : Nat) : List Nat := if n ≤ p.length then p.take n else p ++ ((rept c (n / c.length + 1)).drop p.length).take (n - p.length)
theorem unf_len {p c : List Nat} (hc : c ≠ []) (n : Nat) : (unf p c n).length = n := by
  have hpos := List.length_pos_iff.mpr hc
  unfold unf
  split
  · rw [List.length_take]; omega
  · have : n < (n / c.length + 1) * c.length := by
      have := Nat.lt_succ_floor_div n hpos
      exact this
    rw [List.length_append, List.length_take, List.length_drop, rept_len]
    omega
where Nat.lt_succ_floor_div (n : Nat) {k : Nat} (h : 0 < k) : n < (n / k + 1) * k := by
        have := Nat.div_add_mod n k
        have h2 := Nat.mod_lt n h
        rw [Nat.succ_mul, Nat.mul_comm]
        omega
theorem unf_get {p c : List Nat} (hc : c ≠ []) {n i : Nat} (h : i < n) : (unf p c n)[i]? = if i < p.length then p[i]? else c[i % c.length]? := by
  have hpos := List.length_pos_iff.mpr hc
  unfold unf
  split
  · rename_i hn
    rw [List.getElem?_take_of_lt h, if_pos (by omega)]
  · rename_i hn
    by_cases hi : i < p.length
    · rw [List.getElem?_append_left hi, if_pos hi]
    · rw [List.getElem?_append_right (by omega), if_neg hi, List.getElem?_take_of_lt (by omega), List.getElem?_drop]
      rw [show p.length + (i - p.length) = i by omega]
      exact rept_get c _ i (Nat.lt_of_lt_of_le h (Nat.le_of_lt (unf_len.Nat.lt_succ_floor_div n hpos)))
theorem unf_bits {p c : List Nat} (hp : Bits p) (h : Bits c) (n : Nat) : Bits (unf p c n) := by
  unfold unf
  split
  · exact hp.take n
  · exact hp.app (((h.rept _).sub fun _ z => List.mem_of_mem_drop z).take _)
theorem unfolded_ok {p c : List Nat} (hc : c ≠ []) (hlp : p.length ≤ 90000) (hlc : c.length ≤ 90000) (n : Nat) (hn : n ≤ 90000) : Φ_unfolded [.str p, .str c, .int n] = .ok (.str (unf p c n), true) := by
  have hpos := List.length_pos_iff.mpr hc
  have lp1 : gLen ⟨.str p, .pl, true⟩ = .ok ⟨.int p.length, .pl, true⟩ := gLen_s (by omega)
  have e2' : gLen ⟨.str c, .pl, true⟩ = .ok ⟨.int c.length, .pl, true⟩ := gLen_s (by omega)
  refine bodyR_ret (g := g_unfolded) (n := 4) (ds := [.str p, .str c, .int n]) (a := ⟨.str (unf p c n), .pl, true⟩) ?_
  show g_unfolded [.sh (.str p) true, .sh (.str c) true, .sh (.int n) true, .un] = _
  unfold g_unfolded
  by_cases h : n ≤ p.length
  · have hi : ((n : Int) ≤ (p.length : Int)) := by omega
    have es : gSl ⟨.str p, .pl, true⟩ none (some (n : Int)) = .ok ⟨.str (unf p c n), .pl, true⟩ := by
      rw [gSl_s (by omega), cut_to p h]
      unfold unf
      rw [if_pos h]
    refine seq_ret ?_
    rw [if_ap]
    simp [lp1, hi, es]
  · have hi : ¬ ((n : Int) ≤ (p.length : Int)) := by omega
    have ed : gDivI ⟨.int (n : Int), .pl, true⟩ ⟨.int c.length, .pl, true⟩ = .ok ⟨.int ((n / c.length : Nat) : Int), .pl, true⟩ := by
      rw [gDiv_i (by omega)]
      simp
    have hb : (n / c.length + 1) * c.length ≤ 180000 := by
      have := Nat.div_mul_le_self n c.length
      rw [Nat.succ_mul]
      omega
    have hq : n / c.length ≤ n := Nat.div_le_self _ _
    generalize hK : n / c.length = K at ed hb hq
    have em : gMul ⟨.str c, .pl, true⟩ ⟨.int ((K : Int) + 1), .pl, true⟩ = .ok ⟨.str (rept c (K + 1)), .pl, true⟩ := by
      have q := gMul_s (s := c) (x := ((K + 1 : Nat) : Int)) (m := .pl) (m' := .pl) (b := true) (b' := true) ⟨by omega, by omega, by rw [Int.toNat_natCast, Nat.mul_comm]; omega⟩
      rw [Int.toNat_natCast] at q
      rw [show ((K : Int) + 1) = ((K + 1 : Nat) : Int) by omega]
      exact q
    have em3 : (e2 gMul (eVar 1) (e2 gAdd (e2 gDivI (eVar 2) (e1 gLen (eVar 1))) (eLit (.int 1)))) [.sh (.str p) true, .sh (.str c) true, .sh (.int n) true, .un] = .ok ⟨.str (rept c (K + 1)), .pl, true⟩ := by
      simp -implicitDefEqProofs only [e2_ap, e1_ap, var_s, var_0, slV_sh, bind_ok', sc_str, sc_int, Bool.or_true, e2', ed, gAdd_i, lit_ap]
      exact em
    clear em ed
    have hlt := unf_len.Nat.lt_succ_floor_div n hpos
    rw [hK] at hlt
    have es : gSl ⟨.str (rept c (K + 1)), .pl, true⟩ (some (p.length : Int)) (some (n : Int)) = .ok ⟨.str (((rept c (K + 1)).drop p.length).take (n - p.length)), .pl, true⟩ := by
      rw [gSl_s (by rw [rept_len]; omega), cut_ft _ (by rw [rept_len]; omega) (by rw [rept_len]; omega)]
    have ea : gAdd ⟨.str p, .pl, true⟩ ⟨.str (((rept c (K + 1)).drop p.length).take (n - p.length)), .pl, true⟩ = .ok ⟨.str (unf p c n), .pl, true⟩ := by
      rw [gAdd_s (by rw [List.length_take]; omega)]
      unfold unf
      rw [if_neg h, hK]
    refine seq_nx (ρ1 := [.sh (.str p) true, .sh (.str c) true, .sh (.int n) true, .un]) (by rw [if_ap]; simp [lp1, hi]) ?_
    refine seq_nx (ρ1 := [.sh (.str p) true, .sh (.str c) true, .sh (.int n) true, .sh (.str (rept c (K + 1))) true]) (by rw [asg_ap, em3]; simp) ?_
    simp [lp1, es, ea]
/-- a band's language as prefix and cycle -/
def bandQ (r : Row) (n : Nat) : List Nat × List Nat := (unf [] r.1 n ++ [r.2.1], r.2.2)
theorem bandQ_has {p : Nat} {r : Row} (w : WRow p r) (h1 : 1 ≤ p) (n x : Nat) : has (bandQ r n).1 (bandQ r n).2 x = (if x = n then r.2.1 == 49 else if x < n then r.1[x % p]? == some 49 else r.2.2[x % p]? == some 49) := by
  have l1 := w.l1
  have l2 := w.l2
  have hne : r.1 ≠ [] := fun z => by rw [z] at l1; simp at l1; omega
  unfold has bandQ
  simp only [List.length_append, unf_len hne, List.length_singleton]
  by_cases e : x = n
  · subst e
    rw [if_pos (by omega), if_pos rfl, List.getElem?_append_right (by rw [unf_len hne]; exact Nat.le_refl _), unf_len hne]
    simp
  · rw [if_neg e]
    by_cases hlt : x < n
    · rw [if_pos (by omega), if_pos hlt, List.getElem?_append_left (by rw [unf_len hne]; exact hlt), unf_get hne hlt]
      simp [l1]
    · rw [if_neg (by omega), if_neg hlt, l2]
/-- the language at a place, in least form -/
def langPS (p : Nat) (fx : List (List Nat × List Nat)) (bs : List (List Row)) (z : Nat) : List Nat × List Nat := match fx[z]? with
  | some q => q
  | none => match bs[(z - fx.length) % bs.length]? with
    | some b => (match b[((z - fx.length) / bs.length) % p]? with
      | some r => least (bandQ r ((z - fx.length) / bs.length))
      | none => ([], []))
    | none => ([], [])
section
variable {p : Nat} {fx : List (List Nat × List Nat)} {bs : List (List Row)} (w : WFam p fx bs)
include w
/-- where a place lies -/
theorem place_cases {z : Nat} (hz : There fx bs z) : (∃ q, fx[z]? = some q ∧ WFix p q ∧ z < fx.length) ∨ (fx[z]? = none ∧ fx.length ≤ z ∧ 0 < bs.length ∧ ∃ b r, bs[(z - fx.length) % bs.length]? = some b ∧ b[((z - fx.length) / bs.length) % p]? = some r ∧ b.length = p ∧ WRow p r) := by
  by_cases h : z < fx.length
  · exact .inl ⟨fx[z], List.getElem?_eq_getElem h, w.hf _ (List.getElem_mem h), h⟩
  · have hb : bs ≠ [] := fun e => h (hz e)
    have hbp := List.length_pos_iff.mpr hb
    have h1 : (z - fx.length) % bs.length < bs.length := Nat.mod_lt _ hbp
    obtain ⟨b, e1⟩ : ∃ b, bs[(z - fx.length) % bs.length]? = some b := ⟨_, List.getElem?_eq_getElem h1⟩
    have hbm := List.mem_of_getElem? e1
    have hbl := w.bl b hbm
    have h2 : ((z - fx.length) / bs.length) % p < b.length := by rw [hbl]; exact Nat.mod_lt _ w.p1
    obtain ⟨r, e2'⟩ : ∃ r, b[((z - fx.length) / bs.length) % p]? = some r := ⟨_, List.getElem?_eq_getElem h2⟩
    exact .inr ⟨List.getElem?_eq_none (by omega), by omega, hbp, b, r, e1, e2', hbl, w.bd b hbm r (List.mem_of_getElem? e2')⟩
theorem langPS_has {z : Nat} (hz : There fx bs z) (x : Nat) : has (langPS p fx bs z).1 (langPS p fx bs z).2 x = lang p fx bs z x := by
  unfold langPS lang
  rcases place_cases w hz with ⟨q, e, wq, _⟩ | ⟨e, hle, hbp, b, r, e1, e2', hbl, wr⟩
  · rw [e]
  · rw [e]
    simp only [e1, e2']
    unfold bandHas
    rw [e2']
    simp only
    have hne : r.2.2 ≠ [] := fun z => by have := wr.one; rw [z] at this; cases this
    rw [show has (least (bandQ r ((z - fx.length) / bs.length))).1 (least (bandQ r ((z - fx.length) / bs.length))).2 x = has (bandQ r ((z - fx.length) / bs.length)).1 (bandQ r ((z - fx.length) / bs.length)).2 x from has_least hne x]
    exact bandQ_has wr w.p1 _ x
theorem bandQ_wp {b : List Row} {r : Row} (wr : WRow p r) {n : Nat} (hn : n ≤ 80000) : WP (bandQ r n).1 (bandQ r n).2 := by
  have l1 := wr.l1
  have l2 := wr.l2
  have h1 := w.p1
  have h4 := w.p4
  have hne : r.1 ≠ [] := fun z => by rw [z] at l1; simp at l1; omega
  have hne2 : r.2.2 ≠ [] := fun z => by rw [z] at l2; simp at l2; omega
  refine ⟨(unf_bits (fun c h => by cases h) wr.b1 n).app fun c hc => by rw [List.mem_singleton.mp hc]; exact wr.a, wr.b2, hne2, ?_, by unfold Few; show r.2.2.length ≤ 100000; omega⟩
  show (unf [] r.1 n ++ [r.2.1]).length ≤ 90000
  rw [List.length_append, unf_len hne, List.length_singleton]
  omega
theorem langPS_fix {z : Nat} (hz : There fx bs z) : Bits (langPS p fx bs z).1 ∧ Bits (langPS p fx bs z).2 ∧ 49 ∈ (langPS p fx bs z).2 ∧ (langPS p fx bs z).2.length ∣ p ∧ (langPS p fx bs z).1.length ≤ max 12 (z + 1) := by
  unfold langPS
  rcases place_cases w hz with ⟨q, e, wq, _⟩ | ⟨e, hle, hbp, b, r, e1, e2', hbl, wr⟩
  · rw [e]
    exact ⟨wq.bp, wq.bc, wq.one, wq.dv, by have := wq.lp; simp only; omega⟩
  · rw [e]
    simp only [e1, e2']
    have l1 := wr.l1
    have l2 := wr.l2
    have h1 := w.p1
    have hne : r.1 ≠ [] := fun z => by rw [z] at l1; simp at l1; omega
    have hne2 : r.2.2 ≠ [] := fun z => by have := wr.one; rw [z] at this; cases this
    have hcy := lcyc_cy hne2
    have hb1 : Bits (bandQ r ((z - fx.length) / bs.length)).1 := (unf_bits (fun c h => by cases h) wr.b1 _).app fun c hc => by rw [List.mem_singleton.mp hc]; exact wr.a
    refine ⟨hb1.sub fun _ h => lpre_sub h, wr.b2.sub hcy.sub, ?_, ?_, ?_⟩
    · obtain ⟨i, hi⟩ := List.mem_iff_getElem?.mp wr.one
      have hil := (List.getElem?_eq_some_iff.mp hi).1
      have := hcy.at_ i
      rw [Nat.mod_eq_of_lt hil, hi] at this
      exact List.mem_of_getElem? this
    · show (lcyc r.2.2).length ∣ p
      rw [← l2]
      exact hcy.dv
    · show (lpre (unf [] r.1 ((z - fx.length) / bs.length) ++ [r.2.1]) (lcyc r.2.2)).length ≤ _
      refine Nat.le_trans (lpre_len_le _ _) ?_
      rw [List.length_append, unf_len hne, List.length_singleton]
      have : (z - fx.length) / bs.length ≤ z - fx.length := Nat.div_le_self _ _
      omega
theorem seat_ok {z : Nat} (hz : There fx bs z) (hl : z ≤ 70000) : Φ_Family_seat [famD p fx bs, .int z] = .ok (if z < fx.length then .tup [.str [102, 105, 120, 101, 100], .int z] else .tup [.str [98, 97, 110, 100], .int (((z - fx.length) % bs.length : Nat) : Int), .int (((z - fx.length) / bs.length : Nat) : Int)], true) := by
  have hb2 := w.b2
  have nz : ¬ (z : Int) < 0 := by omega
  let E : SV → SV → En := fun x y => [.sh (famD p fx bs) false, .sh (.int z) true, x, y]
  have s1 : (sIf (tOr' (tNot' (tVal (eIsi tt_int (eVar 1)))) (tOr' (tVal (eIsi tt_bool (eVar 1))) (t2 cLt (eVar 1) (eLit (.int 0))))) (sRaise 22 Φ_NoLanguage___init__ 1 1 (aCons (eVar 1) aNil)) sNext) (E .un .un) = .next (E .un .un) := by
    rw [if_ap]
    simp [E, tt_int, tt_bool, nz]
  have s2 : (sIf (tAnd' (t2 cEq (e1 gLen (e1 (gFld tab_bands) (eVar 0))) (eLit (.int 0))) (t2 cGe (eVar 1) (e1 gLen (e1 (gFld tab_fixed) (eVar 0))))) (sRaise 22 Φ_NoLanguage___init__ 1 1 (aCons (eVar 1) aNil)) sNext) (E .un .un) = .next (E .un .un) := by
    rw [if_ap]
    by_cases hb : bs = []
    · have := hz hb
      have nf : ¬ ((fx.length : Int) ≤ z) := by omega
      simp [E, List.lookup, cEq_i, hb, nf]
    · have nb : ¬ ((bs.length : Int) = 0) := by have := List.length_pos_iff.mpr hb; omega
      simp [E, List.lookup, cEq_i, nb, hb]
  rcases place_cases w hz with ⟨q, e, wq, hlt⟩ | ⟨e, hle, hbp, b, r, e1, e2', hbl, wr⟩
  · rw [if_pos hlt]
    refine bodyR_ret (g := g_Family_seat) (n := 4) (ds := [famD p fx bs, .int z]) (a := ⟨_, .pl, true⟩) ?_
    show g_Family_seat (E .un .un) = _
    unfold g_Family_seat
    refine seq_nx s1 (seq_nx s2 (seq_ret ?_))
    rw [if_ap]
    have hi : ((z : Int) < fx.length) := by omega
    simp [E, List.lookup, hi]
  · rw [if_neg (show ¬ z < fx.length by omega)]
    refine bodyR_ret (g := g_Family_seat) (n := 4) (ds := [famD p fx bs, .int z]) (a := ⟨_, .pl, true⟩) ?_
    show g_Family_seat (E .un .un) = _
    unfold g_Family_seat
    have hi : ¬ ((z : Int) < fx.length) := by omega
    have ed : gDivmod ⟨.int ((z : Int) - fx.length), .pl, true⟩ ⟨.int bs.length, .pl, true⟩ = .ok ⟨.tup [.int (((z - fx.length) / bs.length : Nat) : Int), .int (((z - fx.length) % bs.length : Nat) : Int)], .pl, true⟩ := by
      have h0 : ((z : Int) - fx.length) = ((z - fx.length : Nat) : Int) := by omega
      rw [h0]
      show (if (0 : Int) < bs.length ∧ (bs.length : Int) < 1073741824 then R.ok (⟨.tup [.int (((z - fx.length : Nat) : Int) / bs.length), .int (((z - fx.length : Nat) : Int) % bs.length)], .pl, true⟩ : Vl) else .bad) = _
      rw [if_pos (by omega)]
      simp
    generalize (z - fx.length) / bs.length = n at ed ⊢
    generalize (z - fx.length) % bs.length = j at ed ⊢
    refine seq_nx s1 (seq_nx s2 (seq_nx (ρ1 := E .un .un) (by rw [if_ap]; simp [E, List.lookup, hi]) ?_))
    refine seq_nx (ρ1 := E (.sh (.int (n : Int)) true) (.sh (.int (j : Int)) true)) ?_ ?_
    · simp [E, List.lookup, sUnp, ed, hSeq, hNames]
    · simp [E]
theorem band_language_ok {b : List Row} (hb : b.length = p) (hw : ∀ r ∈ b, WRow p r) {n : Nat} (hn : n ≤ 80000) {r : Row} (hr : b[n % p]? = some r) : Φ_Band_language [bandD p b, .int n] = .ok (PSo (least (bandQ r n)).1 (least (bandQ r n)).2, true) := by
  have h1 := w.p1
  have h4 := w.p4
  have wr := hw r (List.mem_of_getElem? hr)
  have l1 := wr.l1
  have hne : r.1 ≠ [] := fun z => by rw [z] at l1; simp at l1; omega
  have em : gModI ⟨.int (n : Int), .pl, true⟩ ⟨.int p, .pl, true⟩ = .ok ⟨.int ((n % p : Nat) : Int), .pl, true⟩ := by
    rw [gMod_i (by omega)]
    simp
  have ea : gAt ⟨.tup (b.map rowT), .pl, false⟩ ⟨.int ((n % p : Nat) : Int), .pl, true⟩ = .ok ⟨rowT r, .pl, false⟩ := by
    rw [gAt_t (d := rowT r) (by rw [atI_eq rfl, List.getElem?_map, hr]; rfl)]
    rfl
  have a0 : gAt ⟨rowT r, .pl, false⟩ ⟨.int 0, .pl, true⟩ = .ok ⟨.str r.1, .pl, true⟩ := rfl
  have a1 : gAt ⟨rowT r, .pl, false⟩ ⟨.int 1, .pl, true⟩ = .ok ⟨.str [r.2.1], .pl, true⟩ := rfl
  have a2 : gAt ⟨rowT r, .pl, false⟩ ⟨.int 2, .pl, true⟩ = .ok ⟨.str r.2.2, .pl, true⟩ := rfl
  have c1 : callR Φ_unfolded [⟨.str [], .pl, true⟩, ⟨.str r.1, .pl, true⟩, ⟨.int n, .pl, true⟩] [] = .ok ⟨.str (unf [] r.1 n), .pl, true⟩ := callR_new (unfolded_ok hne (by simp) (by omega) n (by omega))
  have es : gAdd ⟨.str (unf [] r.1 n), .pl, true⟩ ⟨.str [r.2.1], .pl, true⟩ = .ok ⟨.str (unf [] r.1 n ++ [r.2.1]), .pl, true⟩ := gAdd_s (by rw [unf_len hne]; simp; omega)
  have en := new_ps (bandQ_wp w (b := b) wr hn) (b := true) (b' := true)
  generalize n % p = k at em ea hr
  refine bodyR_ret (g := g_Band_language) (n := 3) (ds := [bandD p b, .int n]) (a := ⟨PSo (least (bandQ r n)).1 (least (bandQ r n)).2, .pl, true⟩) ?_
  show g_Band_language [.sh (bandD p b) false, .sh (.int n) true, .un] = _
  unfold g_Band_language
  refine seq_nx (ρ1 := [.sh (bandD p b) false, .sh (.int n) true, .sh (rowT r) false]) (by simp [List.lookup, em, ea]) ?_
  unfold bandQ at en
  simp only at en
  simp [a0, a1, a2, c1, es, en, least, bandQ]
theorem language_ok {z : Nat} (hz : There fx bs z) (hl : z ≤ 70000) : ∃ k, Φ_Family_language [famD p fx bs, .int z] = .ok (PSo (langPS p fx bs z).1 (langPS p fx bs z).2, k) := by
  have hs := seat_ok w hz hl
  rcases place_cases w hz with ⟨q, e, wq, hlt⟩ | ⟨e, hle, hbp, b, r, e1, e2', hbl, wr⟩
  · rw [if_pos hlt] at hs
    have c1 : callR Φ_Family_seat [⟨famD p fx bs, .pl, false⟩, ⟨.int z, .pl, true⟩] [] = .ok ⟨.tup [.str [102, 105, 120, 101, 100], .int z], .pl, true⟩ := callR_new hs
    have a0 : gAt ⟨.tup [.str [102, 105, 120, 101, 100], .int z], .pl, true⟩ ⟨.int 0, .pl, true⟩ = .ok ⟨.str [102, 105, 120, 101, 100], .pl, true⟩ := rfl
    have ee : cEq ⟨.str [102, 105, 120, 101, 100], .pl, true⟩ ⟨.str [102, 105, 120, 101, 100], .pl, true⟩ = some true := by rw [cEq_str (by simp) (by simp)]; rfl
    have ea : gAt ⟨.tup (fx.map fun q => PSo q.1 q.2), .pl, false⟩ ⟨.int z, .pl, true⟩ = .ok ⟨PSo q.1 q.2, .pl, false⟩ := by
      rw [gAt_t (d := PSo q.1 q.2) (by rw [atI_eq rfl, List.getElem?_map, e]; rfl)]
      rfl
    refine ⟨false, ?_⟩
    have hq : langPS p fx bs z = q := by unfold langPS; rw [e]
    rw [hq]
    refine bodyR_ret (g := g_Family_language) (n := 3) (ds := [famD p fx bs, .int z]) (a := ⟨PSo q.1 q.2, .pl, false⟩) ?_
    show g_Family_language [.sh (famD p fx bs) false, .sh (.int z) true, .un] = _
    unfold g_Family_language
    refine seq_nx (ρ1 := [.sh (famD p fx bs) false, .sh (.int z) true, .sh (.tup [.str [102, 105, 120, 101, 100], .int z]) true]) (by simp [c1]) (seq_ret ?_)
    rw [if_ap]
    simp [List.lookup, a0, ee, ea]
  · rw [if_neg (by omega)] at hs
    have c1 := callR_new (as := [⟨famD p fx bs, .pl, false⟩, ⟨.int z, .pl, true⟩]) (dds := []) hs
    have hn : (z - fx.length) / bs.length ≤ 80000 := Nat.le_trans (Nat.div_le_self _ _) (by omega)
    have hbm := List.mem_of_getElem? e1
    have hbl' := band_language_ok w (w.bl b hbm) (w.bd b hbm) hn e2'
    have hq : langPS p fx bs z = least (bandQ r ((z - fx.length) / bs.length)) := by unfold langPS; rw [e]; simp only [e1, e2']
    generalize (z - fx.length) / bs.length = n at *
    generalize (z - fx.length) % bs.length = j at *
    have a0 : gAt ⟨.tup [.str [98, 97, 110, 100], .int (j : Int), .int (n : Int)], .pl, true⟩ ⟨.int 0, .pl, true⟩ = .ok ⟨.str [98, 97, 110, 100], .pl, true⟩ := rfl
    have a1 : gAt ⟨.tup [.str [98, 97, 110, 100], .int (j : Int), .int (n : Int)], .pl, true⟩ ⟨.int 1, .pl, true⟩ = .ok ⟨.int (j : Int), .pl, true⟩ := rfl
    have a2 : gAt ⟨.tup [.str [98, 97, 110, 100], .int (j : Int), .int (n : Int)], .pl, true⟩ ⟨.int 2, .pl, true⟩ = .ok ⟨.int (n : Int), .pl, true⟩ := rfl
    have ee : cEq ⟨.str [98, 97, 110, 100], .pl, true⟩ ⟨.str [102, 105, 120, 101, 100], .pl, true⟩ = some false := by rw [cEq_str (by simp) (by simp)]; rfl
    have ea : gAt ⟨.tup (bs.map (bandD p)), .pl, false⟩ ⟨.int (j : Int), .pl, true⟩ = .ok ⟨bandD p b, .pl, false⟩ := by
      rw [gAt_t (d := bandD p b) (by rw [atI_eq rfl, List.getElem?_map, e1]; rfl)]
      rfl
    have c2 : callR Φ_Band_language [⟨bandD p b, .pl, false⟩, ⟨.int (n : Int), .pl, true⟩] [] = .ok ⟨PSo (least (bandQ r n)).1 (least (bandQ r n)).2, .pl, true⟩ := callR_new hbl'
    refine ⟨true, ?_⟩
    rw [hq]
    refine bodyR_ret (g := g_Family_language) (n := 3) (ds := [famD p fx bs, .int z]) (a := ⟨PSo (least (bandQ r n)).1 (least (bandQ r n)).2, .pl, true⟩) ?_
    show g_Family_language [.sh (famD p fx bs) false, .sh (.int z) true, .un] = _
    unfold g_Family_language
    refine seq_nx (ρ1 := [.sh (famD p fx bs) false, .sh (.int z) true, .sh (.tup [.str [98, 97, 110, 100], .int (j : Int), .int (n : Int)]) true]) (by simp [c1]) ?_
    refine seq_nx (ρ1 := [.sh (famD p fx bs) false, .sh (.int z) true, .sh (.tup [.str [98, 97, 110, 100], .int (j : Int), .int (n : Int)]) true]) (by rw [if_ap]; simp [a0, ee]) ?_
    simp [List.lookup, a1, a2, ea, c2]
theorem place_count_ok : Φ_Family_place_count [famD p fx bs] = .ok (if bs = [] then .int fx.length else .non, true) := by
  refine bodyR_ret (g := g_Family_place_count) (n := 1) (ds := [famD p fx bs]) (a := ⟨if bs = [] then .int fx.length else .non, .pl, true⟩) ?_
  show g_Family_place_count [.sh (famD p fx bs) false] = _
  unfold g_Family_place_count
  by_cases h : bs = []
  · refine seq_nx (ρ1 := [.sh (famD p fx bs) false]) (by rw [if_ap]; simp [List.lookup, h]) ?_
    simp [List.lookup, h]
  · have : (0 : Int) < bs.length := by have := List.length_pos_iff.mpr h; omega
    refine seq_ret ?_
    rw [if_ap]
    simp [List.lookup, h, this]
end
end Pf
set_option maxHeartbeats 1000000
namespace Pf
open PySem L2 Ev
/-! the law's own data, typed -/
abbrev lineD (q : List Nat × List Nat) : D := .lst [.str q.1, .str q.2]
abbrev rowsD (b : List Row) : D := .lst (b.map rowL)
abbrev dataD (p : Nat) (fx : List (List Nat × List Nat)) (bs : List (List Row)) : D := .lst [.int p, .lst (fx.map lineD), .lst (bs.map rowsD)]
structure WLin (p : Nat) (q : List Nat × List Nat) : Prop where
  bp : Bits q.1
  bc : Bits q.2
  lp : q.1.length ≤ 6
  lc : q.2.length = p
  one : 49 ∈ q.2
structure WRaw (p : Nat) (fx : List (List Nat × List Nat)) (bs : List (List Row)) : Prop where
  p1 : 1 ≤ p
  p4 : p ≤ 4
  hf : ∀ q ∈ fx, WLin p q
  bl : ∀ b ∈ bs, b.length = p
  bd : ∀ b ∈ bs, ∀ r ∈ b, WRow p r
  f6 : fx.length ≤ 6
  b2 : bs.length ≤ 2
  ne : bs = [] → fx ≠ []
theorem map_of {α : Type} {f : α → D} {P : α → Prop} : ∀ {l : List D}, (∀ d ∈ l, ∃ a, d = f a ∧ P a) → ∃ as : List α, l = as.map f ∧ ∀ a ∈ as, P a
  | [], _ => ⟨[], rfl, fun a h => by simp at h⟩
  | d :: l, h => by
    obtain ⟨a, rfl, ha⟩ := h d (List.mem_cons_self ..)
    obtain ⟨as, rfl, has⟩ := map_of (l := l) fun d hd => h d (List.mem_cons_of_mem _ hd)
    exact ⟨a :: as, rfl, fun x hx => by rcases List.mem_cons.mp hx with z | z; exact z ▸ ha; exact has x z⟩
theorem row_typed {p : Nat} {d : D} (h : BRow p d) : ∃ r : Row, d = rowL r ∧ WRow p r := by
  obtain ⟨lo, hi, a, rfl, l1, l2, b1, b2, ba, one⟩ := h
  exact ⟨(bits lo, (if a = 0 then 48 else 49), bits hi), rfl, bits_ok _, by simp [l1], by show (if a = 0 then 48 else 49) = 48 ∨ (if a = 0 then 48 else 49) = 49; split <;> simp, bits_ok _, by simp [l2], bits_one one⟩
theorem data_typed {d : D} {p : Nat} {fixed bands : List D} (w : WData d p fixed bands) : ∃ fx bs, d = dataD p fx bs ∧ WRaw p fx bs := by
  obtain ⟨fx, e1', h1⟩ := map_of (f := lineD) (P := WLin p) fun x hx => by
    obtain ⟨a, b, rfl, k1, k2, k3, k4, k5⟩ := w.fx x hx
    exact ⟨(a, b), rfl, k1, k2, k3, k4, k5⟩
  obtain ⟨bs, e2', h2⟩ := map_of (f := rowsD) (P := fun b => b.length = p ∧ ∀ r ∈ b, WRow p r) fun x hx => by
    obtain ⟨rows, rfl, k1, k2⟩ := w.bd x hx
    obtain ⟨rs, rfl, k3⟩ := map_of (f := rowL) (P := WRow p) fun d hd => row_typed (k2 d hd)
    exact ⟨rs, rfl, by simpa using k1, k3⟩
  subst e1' e2'
  refine ⟨fx, bs, w.eq, w.p1, w.p4, h1, fun b hb => (h2 b hb).1, fun b hb => (h2 b hb).2, by simpa using w.f6, by simpa using w.b2, fun z => ?_⟩
  have := w.ne (by simp [z])
  simpa using this
/-- the family that the law builds -/
abbrev built (fx : List (List Nat × List Nat)) : List (List Nat × List Nat) := fx.map least
section
variable {p : Nat} {fx : List (List Nat × List Nat)} {bs : List (List Row)} (w : WRaw p fx bs)
include w
theorem raw_fam : WFam p (built fx) bs := by
  have hp := w.p1
  refine ⟨w.p1, w.p4, fun q hq => ?_, w.bl, w.bd, by simpa using w.f6, w.b2, fun z => ?_⟩
  · obtain ⟨q0, h0, rfl⟩ := List.mem_map.mp hq
    have wl := w.hf q0 h0
    have hne : q0.2 ≠ [] := fun z => by have := wl.one; rw [z] at this; cases this
    have cy := lcyc_cy hne
    refine ⟨wl.bp.sub fun _ h => lpre_sub h, wl.bc.sub cy.sub, ?_, Nat.le_trans (lpre_len_le _ _) (by have := wl.lp; omega), by rw [← wl.lc]; exact cy.dv⟩
    obtain ⟨i, hi⟩ := List.mem_iff_getElem?.mp wl.one
    have hil := (List.getElem?_eq_some_iff.mp hi).1
    have := cy.at_ i
    rw [Nat.mod_eq_of_lt hil, hi] at this
    exact List.mem_of_getElem? this
  · have h1 : bs = [] := List.length_eq_zero_iff.mp (by omega)
    have h2 : fx = [] := by
      have : (built fx).length = 0 := by omega
      simpa using this
    exact w.ne h1 h2
theorem lang_built (z x : Nat) : lang p (built fx) bs z x = lang p fx bs z x := by
  unfold lang
  rw [List.getElem?_map, List.length_map]
  cases h : fx[z]? with
  | none => rfl
  | some q =>
    have wl := w.hf q (List.mem_of_getElem? h)
    have hne : q.2 ≠ [] := fun z => by have := wl.one; rw [z] at this; cases this
    exact has_least hne x
theorem build_ok : Φ__law_build [dataD p fx bs] = .ok (famD p (built fx) bs, false) := by
  have wf := raw_fam w
  have h1 := w.p1
  have h4 := w.p4
  have f6 := w.f6
  have b2 := w.b2
  let E : SV → En := fun x => [.sh (dataD p fx bs) false, x, .un, .un, .un]
  have efx : iAll (e2 gAt (eVar 0) (eLit (.int 1))) (E .un) = .ok ⟨fx.map lineD, false, false⟩ := rfl
  have l1 : lcF (hName 2) false tTrue (eNew 35 Φ_PeriodicSet___init__ 2 [] (aCons (e2 gAt (eVar 2) (eLit (.int 0))) (aCons (e2 gAt (eVar 2) (eLit (.int 1))) aNil))) (wipeE (E .un) [2]) (fx.map lineD) = .ok ((built fx).map fun q => PSo q.1 q.2, true) := by
    rw [lcF_fm (fun _ => true) (fun d => match d with
      | .lst [.str a, .str b] => PSo (lpre a (lcyc b)) (lcyc b)
      | _ => .non) fun d hd => by
        obtain ⟨q, hq, rfl⟩ := List.mem_map.mp hd
        have wl := w.hf q hq
        have hne : q.2 ≠ [] := fun z => by have := wl.one; rw [z] at this; cases this
        have wp : WP q.1 q.2 := ⟨wl.bp, wl.bc, hne, by have := wl.lp; omega, by have := wl.lc; unfold Few; omega⟩
        refine ⟨[.sh (dataD p fx bs) false, .un, .sh (lineD q) false, .un, .un], by simp [E, wipeE], rfl, fun _ => ⟨.pl, true, ?_, rfl, rfl⟩⟩
        have a0 : gAt ⟨lineD q, .pl, false⟩ ⟨.int 0, .pl, true⟩ = .ok ⟨.str q.1, .pl, true⟩ := rfl
        have a1 : gAt ⟨lineD q, .pl, false⟩ ⟨.int 1, .pl, true⟩ = .ok ⟨.str q.2, .pl, true⟩ := rfl
        simp [a0, a1, new_ps wp]]
    rw [show List.filter (fun _ => true) (fx.map lineD) = fx.map lineD from List.filter_eq_self.mpr fun _ _ => rfl]
    simp [Function.comp_def, least]
  have s1 : eLc (iAll (e2 gAt (eVar 0) (eLit (.int 1)))) (hName 2) tTrue (eNew 35 Φ_PeriodicSet___init__ 2 [] (aCons (e2 gAt (eVar 2) (eLit (.int 0))) (aCons (e2 gAt (eVar 2) (eLit (.int 1))) aNil))) [2] (E .un) = .ok ⟨.lst ((built fx).map fun q => PSo q.1 q.2), .nw, true⟩ :=
    lc_at (p := ((built fx).map fun q => PSo q.1 q.2, true)) efx rfl (by show (fx.map lineD).length ≤ 1000000; rw [List.length_map]; omega) l1
  let E2 : En := E (.sh (.lst ((built fx).map fun q => PSo q.1 q.2)) true)
  have ebs : iAll (e2 gAt (eVar 0) (eLit (.int 2))) E2 = .ok ⟨bs.map rowsD, false, false⟩ := rfl
  have l2 : lcF (hName 4) false tTrue (eNew 13 Φ_Band___init__ 1 [] (aCons (eLc (iAll (eVar 4)) (hName 3) tTrue (eTup (aCons (e2 gAt (eVar 3) (eLit (.int 0))) (aCons (e2 gAt (eVar 3) (eLit (.int 1))) (aCons (e2 gAt (eVar 3) (eLit (.int 2))) aNil)))) [3]) aNil)) (wipeE E2 [4]) (bs.map rowsD) = .ok (bs.map (bandD p), true) := by
    rw [lcF_fm (fun _ => true) (fun d => match d with
      | .lst rs => .obj 13 [.int p, .tup (rs.map fun r => match r with | .lst l => .tup l | _ => .non)]
      | _ => .non) fun d hd => by
        obtain ⟨b, hb, rfl⟩ := List.mem_map.mp hd
        have hbl := w.bl b hb
        let E3 : En := [.sh (dataD p fx bs) false, .sh (.lst ((built fx).map fun q => PSo q.1 q.2)) true, .un, .un, .sh (rowsD b) false]
        refine ⟨E3, by simp [E2, E, E3, wipeE], rfl, fun _ => ⟨.pl, true, ?_, rfl, rfl⟩⟩
        have k1 : lcF (hName 3) false tTrue (eTup (aCons (e2 gAt (eVar 3) (eLit (.int 0))) (aCons (e2 gAt (eVar 3) (eLit (.int 1))) (aCons (e2 gAt (eVar 3) (eLit (.int 2))) aNil)))) (wipeE E3 [3]) (b.map rowL) = .ok (b.map rowT, true) := by
          rw [lcF_fm (fun _ => true) (fun r => match r with | .lst l => .tup l | _ => .non) fun r hr => by
            obtain ⟨r, hr, rfl⟩ := List.mem_map.mp hr
            refine ⟨[.sh (dataD p fx bs) false, .sh (.lst ((built fx).map fun q => PSo q.1 q.2)) true, .un, .sh (rowL r) false, .sh (rowsD b) false], by simp [E3, wipeE], rfl, fun _ => ⟨.pl, true, ?_, rfl, rfl⟩⟩
            have a0 : gAt ⟨rowL r, .pl, false⟩ ⟨.int 0, .pl, true⟩ = .ok ⟨.str r.1, .pl, true⟩ := rfl
            have a1 : gAt ⟨rowL r, .pl, false⟩ ⟨.int 1, .pl, true⟩ = .ok ⟨.str [r.2.1], .pl, true⟩ := rfl
            have a2 : gAt ⟨rowL r, .pl, false⟩ ⟨.int 2, .pl, true⟩ = .ok ⟨.str r.2.2, .pl, true⟩ := rfl
            simp [a0, a1, a2]]
          rw [show List.filter (fun _ => true) (b.map rowL) = b.map rowL from List.filter_eq_self.mpr fun _ _ => rfl]
          simp [Function.comp_def]
        have k2 : eLc (iAll (eVar 4)) (hName 3) tTrue (eTup (aCons (e2 gAt (eVar 3) (eLit (.int 0))) (aCons (e2 gAt (eVar 3) (eLit (.int 1))) (aCons (e2 gAt (eVar 3) (eLit (.int 2))) aNil)))) [3] E3 = .ok ⟨.lst (b.map rowT), .nw, true⟩ :=
          lc_at (p := (b.map rowT, true)) (a := ⟨b.map rowL, false, false⟩) rfl rfl (by show (b.map rowL).length ≤ 1000000; rw [List.length_map]; omega) k1
        have k3 := new_band (p := p) hbl h1 h4 (w.bd b hb) (k := true) (m := .nw) (fun h => nomatch h)
        rw [new_ap, aCons_ap, k2]
        simp only [bind_ok', aNil_ap, List.length_cons, List.length_nil, k3, if_true]
        simp [Function.comp_def]]
    rw [show List.filter (fun _ => true) (bs.map rowsD) = bs.map rowsD from List.filter_eq_self.mpr fun _ _ => rfl]
    simp [Function.comp_def]
  have s2 : eLc (iAll (e2 gAt (eVar 0) (eLit (.int 2)))) (hName 4) tTrue (eNew 13 Φ_Band___init__ 1 [] (aCons (eLc (iAll (eVar 4)) (hName 3) tTrue (eTup (aCons (e2 gAt (eVar 3) (eLit (.int 0))) (aCons (e2 gAt (eVar 3) (eLit (.int 1))) (aCons (e2 gAt (eVar 3) (eLit (.int 2))) aNil)))) [3]) aNil)) [4] E2 = .ok ⟨.lst (bs.map (bandD p)), .nw, true⟩ :=
    lc_at (p := (bs.map (bandD p), true)) ebs rfl (by show (bs.map rowsD).length ≤ 1000000; rw [List.length_map]; omega) l2
  have s3 : newR 18 Φ_Family___init__ [⟨.int p, .pl, true⟩, ⟨.lst ((built fx).map fun q => PSo q.1 q.2), .pl, true⟩, ⟨.lst (bs.map (bandD p)), .nw, true⟩] [] = .ok ⟨famD p (built fx) bs, .pl, false⟩ :=
    newR_ok (ds := [.int p, .lst ((built fx).map fun q => PSo q.1 q.2), .lst (bs.map (bandD p))]) (k := true) rfl (fam_init wf)
  have a0 : gAt ⟨dataD p fx bs, .pl, false⟩ ⟨.int 0, .pl, true⟩ = .ok ⟨.int p, .pl, true⟩ := rfl
  refine bodyR_ret (g := g__law_build) (n := 5) (ds := [dataD p fx bs]) (a := ⟨famD p (built fx) bs, .pl, false⟩) ?_
  show g__law_build (E .un) = _
  unfold g__law_build
  refine seq_nx (ρ1 := E2) (by rw [asg_ap, s1]; rfl) ?_
  rw [ret_ap, new_ap, aCons_ap, aCons_ap, aCons_ap, s2]
  have v0 : (e2 gAt (eVar 0) (eLit (.int 0))) E2 = .ok ⟨.int p, .pl, true⟩ := rfl
  have v1 : (eVar 1) E2 = .ok ⟨.lst ((built fx).map fun q => PSo q.1 q.2), .pl, true⟩ := rfl
  rw [v0, v1]
  simp only [bind_ok', aNil_ap, List.length_cons, List.length_nil, s3]
  rfl
end
/-! membership -/
theorem has_bit_ok {p c : List Nat} (hp : Bits p) (h : Bits c) (hc : c ≠ []) (lp : p.length ≤ 90000) (lc : c.length ≤ 90000) (x : Nat) (hx : x ≤ 1000000) : Φ_has_bit [.str p, .str c, .int x] = .ok (.bl (has p c x), true) := by
  have hpos := List.length_pos_iff.mpr hc
  have lp1 : gLen ⟨.str p, .pl, true⟩ = .ok ⟨.int p.length, .pl, true⟩ := gLen_s (by omega)
  have lc1 : gLen ⟨.str c, .pl, true⟩ = .ok ⟨.int c.length, .pl, true⟩ := gLen_s (by omega)
  refine bodyR_ret (g := g_has_bit) (n := 3) (ds := [.str p, .str c, .int x]) (a := ⟨.bl (has p c x), .pl, true⟩) ?_
  show g_has_bit [.sh (.str p) true, .sh (.str c) true, .sh (.int x) true] = _
  unfold g_has_bit has
  have q49 : ∀ a, (a = 48 ∨ a = 49) → cEq ⟨.str [a], .pl, true⟩ ⟨.str [49], .pl, true⟩ = some (a == 49) := fun a ha => by
    rw [cEq_s (by omega) (by omega), Option.some.injEq, Bool.eq_iff_iff, decide_eq_true_iff, beq_iff_eq]
  by_cases hl : x < p.length
  · have hi : ((x : Int) < (p.length : Int)) := by omega
    obtain ⟨a, ha⟩ : ∃ a, p[x]? = some a := ⟨_, List.getElem?_eq_getElem hl⟩
    have g1 : gAt ⟨.str p, .pl, true⟩ ⟨.int (x : Int), .pl, true⟩ = .ok ⟨.str [a], .pl, true⟩ := gAt_s (by rw [atI_eq rfl]; exact ha) (by omega)
    refine seq_ret ?_
    rw [if_ap]
    simp [lp1, hi, g1, q49 a (hp a (List.mem_of_getElem? ha)), if_pos hl, ha]
  · have hi : ¬ ((x : Int) < (p.length : Int)) := by omega
    obtain ⟨a, ha⟩ : ∃ a, c[x % c.length]? = some a := ⟨_, List.getElem?_eq_getElem (Nat.mod_lt _ hpos)⟩
    have gm : gModI ⟨.int (x : Int), .pl, true⟩ ⟨.int c.length, .pl, true⟩ = .ok ⟨.int ((x % c.length : Nat) : Int), .pl, true⟩ := by
      rw [gMod_i (by omega)]
      simp
    have g1 : gAt ⟨.str c, .pl, true⟩ ⟨.int ((x % c.length : Nat) : Int), .pl, true⟩ = .ok ⟨.str [a], .pl, true⟩ := gAt_s (by rw [atI_eq rfl]; exact ha) (by omega)
    rw [if_neg hl, ha]
    generalize ((x % c.length : Nat) : Int) = y at gm g1
    refine seq_nx (ρ1 := [.sh (.str p) true, .sh (.str c) true, .sh (.int x) true]) (by rw [if_ap]; simp [lp1, hi]) ?_
    simp [lc1, gm, g1, q49 a (h a (List.mem_of_getElem? ha))]
theorem contains_ok {p c : List Nat} (hp : Bits p) (h : Bits c) (hc : c ≠ []) (lp : p.length ≤ 90000) (lc : c.length ≤ 90000) (x : Nat) (hx : x ≤ 1000000) : Φ_PeriodicSet___contains__ [PSo p c, .int x] = .ok (.bl (has p c x), true) := by
  have c1 : callR Φ_has_bit [⟨.str p, .pl, true⟩, ⟨.str c, .pl, true⟩, ⟨.int x, .pl, true⟩] [] = .ok ⟨.bl (has p c x), .pl, true⟩ := callR_new (has_bit_ok hp h hc lp lc x hx)
  refine bodyR_ret (g := g_PeriodicSet___contains__) (n := 2) (ds := [PSo p c, .int x]) (a := ⟨.bl (has p c x), .pl, true⟩) ?_
  show g_PeriodicSet___contains__ [.sh (PSo p c) false, .sh (.int x) true] = _
  unfold g_PeriodicSet___contains__
  simp [List.lookup, c1]
/-- the law's own membership in a line -/
theorem law_in_ok {q : List Nat × List Nat} (hp : Bits q.1) (h : Bits q.2) (hc : q.2 ≠ []) (lp : q.1.length ≤ 90000) (lc : q.2.length ≤ 90000) (x : Nat) : Φ__law_in [lineD q, .int x] = .ok (.bl (has q.1 q.2 x), true) := by
  obtain ⟨p, c⟩ := q
  have hpos := List.length_pos_iff.mpr hc
  have lp1 : gLen ⟨.str p, .pl, true⟩ = .ok ⟨.int p.length, .pl, true⟩ := gLen_s (by simp only at lp; omega)
  have lc1 : gLen ⟨.str c, .pl, true⟩ = .ok ⟨.int c.length, .pl, true⟩ := gLen_s (by simp only at lc; omega)
  have a0 : gAt ⟨lineD (p, c), .pl, false⟩ ⟨.int 0, .pl, true⟩ = .ok ⟨.str p, .pl, true⟩ := rfl
  have a1 : gAt ⟨lineD (p, c), .pl, false⟩ ⟨.int 1, .pl, true⟩ = .ok ⟨.str c, .pl, true⟩ := rfl
  refine bodyR_ret (g := g__law_in) (n := 2) (ds := [lineD (p, c), .int x]) (a := ⟨.bl (has p c x), .pl, true⟩) ?_
  show g__law_in [.sh (lineD (p, c)) false, .sh (.int x) true] = _
  unfold g__law_in has
  have q49 : ∀ a, (a = 48 ∨ a = 49) → cEq ⟨.str [a], .pl, true⟩ ⟨.str [49], .pl, true⟩ = some (a == 49) := fun a ha => by
    rw [cEq_s (by omega) (by omega), Option.some.injEq, Bool.eq_iff_iff, decide_eq_true_iff, beq_iff_eq]
  by_cases hl : x < p.length
  · have hi : ((x : Int) < (p.length : Int)) := by omega
    obtain ⟨a, ha⟩ : ∃ a, p[x]? = some a := ⟨_, List.getElem?_eq_getElem hl⟩
    have g1 : gAt ⟨.str p, .pl, true⟩ ⟨.int (x : Int), .pl, true⟩ = .ok ⟨.str [a], .pl, true⟩ := gAt_s (by rw [atI_eq rfl]; exact ha) (by simp only at lp; omega)
    refine seq_ret ?_
    rw [if_ap]
    simp [a0, lp1, hi, g1, q49 a (hp a (List.mem_of_getElem? ha)), if_pos hl, ha]
  · have hi : ¬ ((x : Int) < (p.length : Int)) := by omega
    obtain ⟨a, ha⟩ : ∃ a, c[x % c.length]? = some a := ⟨_, List.getElem?_eq_getElem (Nat.mod_lt _ hpos)⟩
    have gm : gModI ⟨.int (x : Int), .pl, true⟩ ⟨.int c.length, .pl, true⟩ = .ok ⟨.int ((x % c.length : Nat) : Int), .pl, true⟩ := by
      rw [gMod_i (by simp only at hpos; omega)]
      simp
    have g1 : gAt ⟨.str c, .pl, true⟩ ⟨.int ((x % c.length : Nat) : Int), .pl, true⟩ = .ok ⟨.str [a], .pl, true⟩ := gAt_s (by rw [atI_eq rfl]; exact ha) (by simp only at lc; omega)
    rw [if_neg hl, ha]
    generalize ((x % c.length : Nat) : Int) = y at gm g1
    refine seq_nx (ρ1 := [.sh (lineD (p, c)) false, .sh (.int x) true]) (by rw [if_ap]; simp [a0, lp1, hi]) ?_
    simp [a1, lc1, gm, g1, q49 a (h a (List.mem_of_getElem? ha))]
end Pf
set_option maxHeartbeats 1000000
namespace Pf
open PySem L2 Ev
theorem q49 {a : Nat} (ha : a = 48 ∨ a = 49) : cEq ⟨.str [a], .pl, true⟩ ⟨.str [49], .pl, true⟩ = some (a == 49) := by
  rw [cEq_s (by omega) (by omega), Option.some.injEq, Bool.eq_iff_iff, decide_eq_true_iff, beq_iff_eq]
section
variable {p : Nat} {fx : List (List Nat × List Nat)} {bs : List (List Row)} (w : WRaw p fx bs)
include w
theorem raw_cases {z : Nat} (hz : There fx bs z) : (∃ q, fx[z]? = some q ∧ WLin p q ∧ z < fx.length) ∨ (fx[z]? = none ∧ fx.length ≤ z ∧ 0 < bs.length ∧ ∃ b r, bs[(z - fx.length) % bs.length]? = some b ∧ b[((z - fx.length) / bs.length) % p]? = some r ∧ b.length = p ∧ WRow p r) := by
  by_cases h : z < fx.length
  · exact .inl ⟨fx[z], List.getElem?_eq_getElem h, w.hf _ (List.getElem_mem h), h⟩
  · have hb : bs ≠ [] := fun e => h (hz e)
    have hbp := List.length_pos_iff.mpr hb
    have h1 : (z - fx.length) % bs.length < bs.length := Nat.mod_lt _ hbp
    obtain ⟨b, k1⟩ : ∃ b, bs[(z - fx.length) % bs.length]? = some b := ⟨_, List.getElem?_eq_getElem h1⟩
    have hbm := List.mem_of_getElem? k1
    have hbl := w.bl b hbm
    have h2 : ((z - fx.length) / bs.length) % p < b.length := by rw [hbl]; exact Nat.mod_lt _ w.p1
    obtain ⟨r, k2⟩ : ∃ r, b[((z - fx.length) / bs.length) % p]? = some r := ⟨_, List.getElem?_eq_getElem h2⟩
    exact .inr ⟨List.getElem?_eq_none (by omega), by omega, hbp, b, r, k1, k2, hbl, w.bd b hbm r (List.mem_of_getElem? k2)⟩
/-- the row of a band's place, as the law finds it -/
theorem row_at {z : Nat} (hle : fx.length ≤ z) (hbp : 0 < bs.length) {b : List Row} {r : Row} (k1 : bs[(z - fx.length) % bs.length]? = some b) (k2 : b[((z - fx.length) / bs.length) % p]? = some r) {f : Bool} :
    gDivI ⟨.int ((z : Int) - fx.length), .pl, true⟩ ⟨.int bs.length, .pl, true⟩ = .ok ⟨.int (((z - fx.length) / bs.length : Nat) : Int), .pl, true⟩ ∧
    gModI ⟨.int ((z : Int) - fx.length), .pl, true⟩ ⟨.int bs.length, .pl, true⟩ = .ok ⟨.int (((z - fx.length) % bs.length : Nat) : Int), .pl, true⟩ ∧
    gModI ⟨.int (((z - fx.length) / bs.length : Nat) : Int), .pl, true⟩ ⟨.int p, .pl, true⟩ = .ok ⟨.int ((((z - fx.length) / bs.length) % p : Nat) : Int), .pl, true⟩ ∧
    gAt ⟨.lst (bs.map rowsD), .pl, f⟩ ⟨.int (((z - fx.length) % bs.length : Nat) : Int), .pl, true⟩ = .ok ⟨rowsD b, .pl, f⟩ ∧
    gAt ⟨rowsD b, .pl, f⟩ ⟨.int ((((z - fx.length) / bs.length) % p : Nat) : Int), .pl, true⟩ = .ok ⟨rowL r, .pl, f⟩ := by
  have h1 := w.p1
  have b2 := w.b2
  have h0 : ((z : Int) - fx.length) = ((z - fx.length : Nat) : Int) := by omega
  rw [h0]
  refine ⟨?_, ?_, ?_, ?_, ?_⟩
  · rw [gDiv_i (by omega)]; simp
  · rw [gMod_i (by omega)]; simp
  · rw [gMod_i (by omega)]; simp
  · rw [gAt_l (d := rowsD b) (by rw [atI_eq rfl, List.getElem?_map, k1]; rfl)]; cases f <;> rfl
  · rw [gAt_l (d := rowL r) (by rw [atI_eq rfl, List.getElem?_map, k2]; rfl)]; cases f <;> rfl
/-- a band's language as the law writes it -/
def lineQ (p : Nat) (fx : List (List Nat × List Nat)) (bs : List (List Row)) (z : Nat) : List Nat × List Nat := match fx[z]? with
  | some q => q
  | none => match bs[(z - fx.length) % bs.length]? with
    | some b => (match b[((z - fx.length) / bs.length) % p]? with
      | some r => bandQ r ((z - fx.length) / bs.length)
      | none => ([], []))
    | none => ([], [])
omit w in
theorem unf_map {c : List Nat} (hc : c ≠ []) (n : Nat) : unf [] c n = (List.range n).map fun i => (c[i % c.length]?).getD 0 := by
  refine List.ext_getElem? fun i => ?_
  by_cases hi : i < n
  · rw [unf_get hc hi, List.getElem?_map, List.getElem?_range hi]
    have hpos := List.length_pos_iff.mpr hc
    have : i % c.length < c.length := Nat.mod_lt _ hpos
    simp [List.getElem?_eq_getElem this]
  · rw [List.getElem?_eq_none (by rw [unf_len hc]; omega), List.getElem?_eq_none (by simp; omega)]
theorem line_eq {z : Nat} (hz : There fx bs z) (hl : z ≤ 70000) : Φ__law_line [dataD p fx bs, .int z] = .ok (lineD (lineQ p fx bs z), true) := by
  have h1 := w.p1
  have h4 := w.p4
  have hf : gAt ⟨dataD p fx bs, .pl, false⟩ ⟨.int 1, .pl, true⟩ = .ok ⟨.lst (fx.map lineD), .pl, false⟩ := rfl
  have hb : gAt ⟨dataD p fx bs, .pl, false⟩ ⟨.int 2, .pl, true⟩ = .ok ⟨.lst (bs.map rowsD), .pl, false⟩ := rfl
  have hp : gAt ⟨dataD p fx bs, .pl, false⟩ ⟨.int 0, .pl, true⟩ = .ok ⟨.int p, .pl, true⟩ := rfl
  let E : SV → SV → SV → SV → SV → En := fun a b c d e => [.sh (dataD p fx bs) false, .sh (.int z) true, a, b, c, d, e]
  let E1 := E (.sh (.int fx.length) true) .un .un .un .un
  have st : sAsg 2 (e1 gLen (e2 gAt (eVar 0) (eLit (.int 1)))) (E .un .un .un .un .un) = .next E1 := by simp [E, E1, hf]
  refine bodyR_ret (g := g__law_line) (n := 7) (ds := [dataD p fx bs, .int z]) (a := ⟨lineD (lineQ p fx bs z), .nw, true⟩) ?_
  show g__law_line (E .un .un .un .un .un) = _
  unfold g__law_line lineQ
  rcases raw_cases w hz with ⟨q, e, wl, hlt⟩ | ⟨e, hle, hbp, b, r, k1, k2, hbl, wr⟩
  · rw [e]
    have hi : ((z : Int) < fx.length) := by omega
    have ga : gAt ⟨.lst (fx.map lineD), .pl, false⟩ ⟨.int z, .pl, true⟩ = .ok ⟨lineD q, .pl, false⟩ := by
      rw [gAt_l (d := lineD q) (by rw [atI_eq rfl, List.getElem?_map, e]; rfl)]
      rfl
    have a0 : gAt ⟨lineD q, .pl, false⟩ ⟨.int 0, .pl, true⟩ = .ok ⟨.str q.1, .pl, true⟩ := rfl
    have a1 : gAt ⟨lineD q, .pl, false⟩ ⟨.int 1, .pl, true⟩ = .ok ⟨.str q.2, .pl, true⟩ := rfl
    refine seq_nx st (seq_ret ?_)
    rw [if_ap]
    simp [E1, E, hi, hf, ga, a0, a1]
  · rw [e]
    simp only [k1, k2]
    have hi : ¬ ((z : Int) < fx.length) := by omega
    obtain ⟨g1, g2, g3, g4, g5⟩ := row_at w hle hbp k1 k2 (f := false)
    have hnz : (z - fx.length) / bs.length ≤ 70000 := Nat.le_trans (Nat.div_le_self _ _) (by omega)
    generalize (z - fx.length) / bs.length = n at *
    generalize (z - fx.length) % bs.length = j at *
    generalize n % p = i at *
    have a0 : gAt ⟨rowL r, .pl, false⟩ ⟨.int 0, .pl, true⟩ = .ok ⟨.str r.1, .pl, true⟩ := rfl
    have a1 : gAt ⟨rowL r, .pl, false⟩ ⟨.int 1, .pl, true⟩ = .ok ⟨.str [r.2.1], .pl, true⟩ := rfl
    have a2 : gAt ⟨rowL r, .pl, false⟩ ⟨.int 2, .pl, true⟩ = .ok ⟨.str r.2.2, .pl, true⟩ := rfl
    have l1 := wr.l1
    have hne : r.1 ≠ [] := fun z => by rw [z] at l1; simp at l1; omega
    let E4 := E (.sh (.int fx.length) true) (.sh (.int n) true) (.sh (rowL r) false) .un .un
    have el : lcF (hName 6) true tTrue (e2 gAt (e2 gAt (eVar 4) (eLit (.int 0))) (e2 gModI (e1 gInt (eVar 6)) (e2 gAt (eVar 0) (eLit (.int 0))))) (wipeE E4 [6]) (rng 0 n) = .ok ((unf [] r.1 n).map fun c => .str [c], true) := by
      rw [lcF_fm (fun _ => true) (fun d => match d with
        | .int x => .str [(r.1[x.toNat % p]?).getD 0]
        | _ => .non) fun d hd => by
          obtain ⟨k, hk⟩ := List.mem_iff_getElem?.mp hd
          obtain ⟨hkn, rfl⟩ := rng_get hk
          rw [Int.zero_add]
          refine ⟨[.sh (dataD p fx bs) false, .sh (.int z) true, .sh (.int fx.length) true, .sh (.int n) true, .sh (rowL r) false, .un, .sh (.int k) true], by simp [E4, E, wipeE], rfl, fun _ => ⟨.pl, true, ?_, rfl, rfl⟩⟩
          have hm : k % p < p := Nat.mod_lt _ h1
          obtain ⟨u, hu⟩ : ∃ u, r.1[k % p]? = some u := ⟨_, List.getElem?_eq_getElem (by omega)⟩
          have gm : gModI ⟨.int (k : Int), .pl, true⟩ ⟨.int p, .pl, true⟩ = .ok ⟨.int ((k % p : Nat) : Int), .pl, true⟩ := by
            rw [gMod_i (by omega)]
            simp
          have gu : gAt ⟨.str r.1, .pl, true⟩ ⟨.int ((k % p : Nat) : Int), .pl, true⟩ = .ok ⟨.str [u], .pl, true⟩ := gAt_s (by rw [atI_eq rfl]; exact hu) (by omega)
          generalize ((k % p : Nat) : Int) = y at gm gu
          simp [a0, hp, gm, gu, hu]]
      rw [show List.filter (fun _ => true) (rng 0 n) = rng 0 n from List.filter_eq_self.mpr fun _ _ => rfl]
      rw [unf_map hne, l1]
      unfold rng
      simp [Function.comp_def]
    have ej : eJoin (eLit (.str [])) (eLc (iR1 (eVar 3)) (hName 6) tTrue (e2 gAt (e2 gAt (eVar 4) (eLit (.int 0))) (e2 gModI (e1 gInt (eVar 6)) (e2 gAt (eVar 0) (eLit (.int 0))))) [6]) E4 = .ok ⟨.str (unf [] r.1 n), .pl, true⟩ := by
      have hr : iR1 (eVar 3) E4 = .ok ⟨rng 0 n, true, false⟩ := by
        rw [iR1_at (n := n) (m := .pl) (b := true) (by simp [E4, E]) (by omega)]
        simp
      unfold eJoin
      rw [lit_ap, bind_ok']
      show ofO (some []) _ = _
      rw [ofO_some, lc_at hr rfl (by simp; omega) el, bind_ok']
      exact gJoin_one rfl (by rw [unf_len hne]; omega)
    have es : gAdd ⟨.str (unf [] r.1 n), .pl, true⟩ ⟨.str [r.2.1], .pl, true⟩ = .ok ⟨.str (unf [] r.1 n ++ [r.2.1]), .pl, true⟩ := gAdd_s (by rw [unf_len hne]; simp; omega)
    refine seq_nx st (seq_nx (ρ1 := E1) (by rw [if_ap]; simp [E1, E, hi]) (seq_nx (ρ1 := E (.sh (.int fx.length) true) (.sh (.int n) true) .un .un .un) ?_ (seq_nx (ρ1 := E4) ?_ (seq_nx (ρ1 := E (.sh (.int fx.length) true) (.sh (.int n) true) (.sh (rowL r) false) (.sh (.str (unf [] r.1 n ++ [r.2.1])) true) .un) ?_ ?_))))
    · simp [E1, E, hb, g1]
    · simp [E, E4, hb, hp, g2, g3, g4, g5]
    · rw [asg_ap, e2_ap, ej]
      simp [E4, E, a1, es]
    · simp [E, a2, bandQ]
theorem lineQ_has {z : Nat} (hz : There fx bs z) (x : Nat) : has (lineQ p fx bs z).1 (lineQ p fx bs z).2 x = lang p fx bs z x := by
  unfold lineQ lang
  rcases raw_cases w hz with ⟨q, e, wl, hlt⟩ | ⟨e, hle, hbp, b, r, k1, k2, hbl, wr⟩
  · rw [e]
  · rw [e]
    simp only [k1, k2]
    unfold bandHas
    rw [k2]
    exact bandQ_has wr w.p1 _ x
theorem lineQ_fix {z : Nat} (hz : There fx bs z) : Bits (lineQ p fx bs z).1 ∧ Bits (lineQ p fx bs z).2 ∧ 49 ∈ (lineQ p fx bs z).2 ∧ (lineQ p fx bs z).2.length = p ∧ (lineQ p fx bs z).1.length ≤ max 6 (z + 1) := by
  unfold lineQ
  rcases raw_cases w hz with ⟨q, e, wl, hlt⟩ | ⟨e, hle, hbp, b, r, k1, k2, hbl, wr⟩
  · rw [e]
    exact ⟨wl.bp, wl.bc, wl.one, wl.lc, by have := wl.lp; simp only; omega⟩
  · rw [e]
    simp only [k1, k2]
    have l1 := wr.l1
    have h1 := w.p1
    have hne : r.1 ≠ [] := fun z => by rw [z] at l1; simp at l1; omega
    refine ⟨(unf_bits (fun c h => by cases h) wr.b1 _).app fun c hc => by rw [List.mem_singleton.mp hc]; exact wr.a, wr.b2, wr.one, wr.l2, ?_⟩
    show (unf [] r.1 ((z - fx.length) / bs.length) ++ [r.2.1]).length ≤ _
    rw [List.length_append, unf_len hne, List.length_singleton]
    have : (z - fx.length) / bs.length ≤ z - fx.length := Nat.div_le_self _ _
    omega
end
end Pf
set_option maxHeartbeats 1000000
namespace Pf
open PySem L2 Ev
/-! answers that settle just K -/
structure Sure (A K : Ans) (l : Int) : Prop where
  hit : ∀ a ∈ K, (a.2 = true → l < yes A a.1 ∧ ¬ l < no A a.1) ∧ (a.2 = false → l < no A a.1 ∧ ¬ l < yes A a.1)
  only : ∀ a ∈ A, ∃ b, (a.1, b) ∈ K
theorem Sure.told {A K : Ans} {l : Int} (h : Sure A K l) {a : Int × Bool} (ha : a ∈ K) : told A l a.1 = some a ∧ ¬ clash A l a.1 := by
  obtain ⟨s, b⟩ := a
  have hh := h.hit _ ha
  unfold Pf.told clash
  cases b with
  | true =>
    have := hh.1 rfl
    simp only at this ⊢
    rw [if_pos this.1]
    exact ⟨rfl, fun z => this.2 z.1⟩
  | false =>
    have := hh.2 rfl
    simp only at this ⊢
    rw [if_neg this.2, if_pos this.1]
    exact ⟨rfl, fun z => this.2 z.2⟩
theorem firsts_filter {K : Ans} (hp : K.Pairwise fun a b => a.1 < b.1) {n : Nat} (hk : ∀ a ∈ K, 0 ≤ a.1 ∧ a.1 < n) : (R_ n).filter (fun s => decide (s ∈ K.map (·.1))) = K.map (·.1) := by
  have hpw : (K.map (·.1)).Pairwise (· < ·) := List.pairwise_map.mpr hp
  have hnd : (K.map (·.1)).Nodup := hpw.imp fun h => by omega
  rw [← sort_R hnd (n := n) fun s hs => by
    obtain ⟨a, ha, rfl⟩ := List.mem_map.mp hs
    exact hk a ha]
  exact (sort_eq (List.Perm.refl _) (hpw.imp fun h => by omega)).symm
theorem due_sure {A K : Ans} {l : Int} (h : Sure A K l) (hl : 0 ≤ l) (hp : K.Pairwise fun a b => a.1 < b.1) {n : Nat} (hk : ∀ a ∈ K, 0 ≤ a.1 ∧ a.1 < n) : due A l n = K := by
  unfold due
  rw [← fm_filter (p := fun s => decide (s ∈ K.map (·.1))) fun s _ hs => told_none hl fun ⟨b, hb⟩ => by
    obtain ⟨c, hc⟩ := h.only _ hb
    exact of_decide_eq_false hs (List.mem_map.mpr ⟨_, hc, rfl⟩), firsts_filter hp hk, List.filterMap_map]
  clear hp hk
  have hh : ∀ a ∈ K, told A l a.1 = some a := fun a ha => (h.told ha).1
  clear h
  induction K with
  | nil => rfl
  | cons a K ih =>
    rw [List.filterMap_cons_some (f := (fun s => told A l s) ∘ fun (x : Int × Bool) => x.1) (a := a) (b := a) (hh a (List.mem_cons_self ..)), ih fun b hb => hh b (List.mem_cons_of_mem _ hb)]
theorem settled_sure {d : D} {A K : Ans} {l : Int} (hd : AnsD d A) (hl : A.length < 1000) (hl0 : 0 ≤ l) (h : Sure A K l) (hp : K.Pairwise fun a b => a.1 < b.1) {n : Nat} (hk : ∀ a ∈ K, 0 ≤ a.1 ∧ a.1 < n) (hkl : K.length < 64) : Φ_settled [d, .int l] = .ok (.tup (K.map pairT), true) := by
  have hA : ∀ a ∈ A, 0 ≤ a.1 ∧ a.1 < n := fun a ha => by
    obtain ⟨b, hb⟩ := h.only a ha
    exact hk (a.1, b) hb
  have e := settled_goodG (n := n) hd hl (fun ks hn _ hm => by
    have h1 := sort_R hn (n := n) fun s hs => by
      obtain ⟨b, hb⟩ := hm s hs
      exact hA _ hb
    have h2 := congrArg List.length h1
    rw [(isort_perm ks).length_eq, ← List.countP_eq_length_filter] at h2
    have h3 := congrArg List.length (firsts_filter hp hk)
    rw [← List.countP_eq_length_filter, List.length_map] at h3
    have h4 : (R_ n).countP (fun s => decide (s ∈ ks)) ≤ (R_ n).countP (fun s => decide (s ∈ K.map (·.1))) := List.countP_mono_left fun s _ hs => by
      obtain ⟨b, hb⟩ := hm s (of_decide_eq_true hs)
      obtain ⟨c, hc⟩ := h.only _ hb
      exact decide_eq_true (List.mem_map.mpr ⟨_, hc, rfl⟩)
    omega) hl0 hA fun s hs hc => by
      obtain ⟨b, hb⟩ := clash_in hl0 hc
      obtain ⟨c, hc'⟩ := h.only _ hb
      exact (h.told hc').2 hc
  rwa [due_sure h hl0 hp hk] at e
/-! copies of K and one answer against it -/
def copies (L : Ans) : Nat → Ans
  | 0 => []
  | n + 1 => copies L n ++ L
theorem copies_len (L : Ans) : ∀ n, (copies L n).length = n * L.length
  | 0 => by simp [copies]
  | n + 1 => by rw [copies, List.length_append, copies_len L n, Nat.succ_mul]
theorem copies_mem {L : Ans} {a : Int × Bool} : ∀ {n : Nat}, a ∈ copies L n → a ∈ L
  | 0, h => by cases h
  | n + 1, h => by
    rcases List.mem_append.mp h with z | z
    · exact copies_mem z
    · exact z
theorem copies_no (L : Ans) (s : Int) : ∀ n, no (copies L n) s = n * no L s ∧ yes (copies L n) s = n * yes L s
  | 0 => by simp [copies, no, yes]
  | n + 1 => by
    obtain ⟨h1, h2⟩ := copies_no L s n
    unfold no yes at *
    rw [copies, List.countP_append, List.countP_append, h1, h2, Nat.succ_mul, Nat.succ_mul]
    exact ⟨rfl, rfl⟩
theorem one_each {K : Ans} (hp : K.Pairwise fun a b => a.1 < b.1) : ∀ {s : Int} {b : Bool}, (s, b) ∈ K → no K s = (if b then 0 else 1) ∧ yes K s = (if b then 1 else 0) := by
  induction K with
  | nil => intro s b h; cases h
  | cons a K ih =>
    intro s b h
    obtain ⟨h1, h2⟩ := List.pairwise_cons.mp hp
    have hn : ∀ t b', a = (t, b') → no K t = 0 ∧ yes K t = 0 := fun t b' e => no_zero fun ⟨c, hc⟩ => by
      have := h1 _ hc
      rw [e] at this
      simp at this
    have ex : no (a :: K) s = no K s + (if a.1 = s ∧ a.2 = false then 1 else 0) ∧ yes (a :: K) s = yes K s + (if a.1 = s ∧ a.2 = true then 1 else 0) := by
      unfold no yes
      rw [List.countP_cons, List.countP_cons]
      constructor <;> congr 1 <;> cases a.2 <;> by_cases e : a.1 = s <;> simp [e]
    rcases List.mem_cons.mp h with z | z
    · subst z
      have := hn s b rfl
      rw [ex.1, ex.2, this.1, this.2]
      cases b <;> simp
    · have hne : ¬ a.1 = s := fun e => by
        have := h1 _ z
        simp only at this
        omega
      rw [ex.1, ex.2, if_neg (c := a.1 = s ∧ a.2 = false) (fun q => hne q.1), if_neg (c := a.1 = s ∧ a.2 = true) (fun q => hne q.1)]
      exact ih h2 z
theorem no_rev (K : Ans) (s : Int) : no K.reverse s = no K s ∧ yes K.reverse s = yes K s := by
  unfold no yes
  rw [List.countP_reverse, List.countP_reverse]
  exact ⟨rfl, rfl⟩
/-- the law's answers: copies, and, where lies are let, one answer against the first -/
def answersOf (K : Ans) (m : Nat) : Ans := copies K.reverse (m + 1) ++ (if 0 < m then (K.head?.map fun a => (a.1, !a.2)).toList else [])
theorem answersOf_len (K : Ans) (m : Nat) : (answersOf K m).length ≤ (m + 1) * K.length + 1 := by
  unfold answersOf
  rw [List.length_append, copies_len, List.length_reverse]
  by_cases h : 0 < m
  · rw [if_pos h]
    cases K <;> simp
  · rw [if_neg h]
    simp
theorem sure_of {K : Ans} (hp : K.Pairwise fun a b => a.1 < b.1) (m : Nat) : Sure (answersOf K m) K (m : Int) := by
  refine ⟨fun a ha => ?_, fun a ha => ?_⟩
  · obtain ⟨s, b⟩ := a
    obtain ⟨c1, c2⟩ := copies_no K.reverse s (m + 1)
    rw [(no_rev K s).1] at c1
    rw [(no_rev K s).2] at c2
    obtain ⟨o1, o2⟩ := one_each hp ha
    let X : Ans := if 0 < m then (K.head?.map fun a => (a.1, !a.2)).toList else []
    have hX : no (answersOf K m) s = no (copies K.reverse (m + 1)) s + no X s ∧ yes (answersOf K m) s = yes (copies K.reverse (m + 1)) s + yes X s := by
      unfold no yes answersOf
      rw [List.countP_append, List.countP_append]
      exact ⟨rfl, rfl⟩
    have hXl : X.length ≤ m := by
      show (if 0 < m then (K.head?.map fun a => (a.1, !a.2)).toList else []).length ≤ m
      by_cases h : 0 < m
      · rw [if_pos h]
        cases K <;> simp <;> omega
      · rw [if_neg h]
        exact Nat.zero_le _
    have x1 : no X s ≤ m := Nat.le_trans List.countP_le_length hXl
    have x2 : yes X s ≤ m := Nat.le_trans List.countP_le_length hXl
    rw [hX.1, hX.2, c1, c2, o1, o2]
    cases b <;> simp <;> omega
  · unfold answersOf at ha
    rcases List.mem_append.mp ha with z | z
    · exact ⟨a.2, List.mem_reverse.mp (copies_mem z)⟩
    · by_cases h : 0 < m
      · rw [if_pos h] at z
        cases K with
        | nil => simp at z
        | cons k K =>
          simp at z
          subst z
          exact ⟨k.2, List.mem_cons_self ..⟩
      · rw [if_neg h] at z
        cases z
end Pf
set_option maxHeartbeats 1000000
namespace Pf
open PySem L2 Ev
/-! the least place that agrees -/
theorem loop_find {lo : Int} {h : D → Bool → En → Option En} {b : Bool} {g : En → Out} (E : SV → En) (F : Nat → Bool) (v : Nat → Vl) : ∀ (L : List Nat) (x0 : SV),
    (∀ z ∈ L, ∀ x, ∃ ρ1 y, h (.int (lo + (z : Int))) b (E x) = some ρ1 ∧ (F z = false → g ρ1 = .next (E y)) ∧ (F z = true → g ρ1 = .ret (v z))) →
    (∀ z, L.find? F = some z → loopF h b g (L.map fun (i : Nat) => .int (lo + (i : Int))) (E x0) = .ret (v z)) ∧ (L.find? F = none → ∃ y, loopF h b g (L.map fun (i : Nat) => .int (lo + (i : Int))) (E x0) = .next (E y))
  | [], x0, _ => ⟨fun z h => by simp at h, fun _ => ⟨x0, rfl⟩⟩
  | z :: L, x0, hs => by
    obtain ⟨ρ1, y, h1, h2, h3⟩ := hs z (List.mem_cons_self ..) x0
    rw [List.map_cons, loopF, h1]
    show (∀ u, _ → (match g ρ1 with
      | .next ρ2 => loopF h b g (L.map fun (i : Nat) => .int (lo + (i : Int))) ρ2
      | .cont ρ2 => loopF h b g (L.map fun (i : Nat) => .int (lo + (i : Int))) ρ2
      | .brk ρ2 => .next ρ2
      | o => o) = _) ∧ (_ → ∃ y, (match g ρ1 with
      | .next ρ2 => loopF h b g (L.map fun (i : Nat) => .int (lo + (i : Int))) ρ2
      | .cont ρ2 => loopF h b g (L.map fun (i : Nat) => .int (lo + (i : Int))) ρ2
      | .brk ρ2 => .next ρ2
      | o => o) = _)
    rw [List.find?_cons]
    cases hf : F z with
    | true =>
      rw [h3 hf]
      exact ⟨fun u hu => by cases hu; rfl, fun hu => by cases hu⟩
    | false =>
      rw [h2 hf]
      exact loop_find E F v L y fun u hu => hs u (List.mem_cons_of_mem _ hu)
theorem bls_map {α : Type} (f : α → Bool) : ∀ l : List α, bls? (l.map fun a => .bl (f a)) = some (l.map f)
  | [] => rfl
  | a :: l => by
    show (bls? (l.map fun a => .bl (f a))).map _ = _
    rw [bls_map f l]
    rfl
abbrev Kn := List (Nat × Bool)
abbrev up (K : Kn) : Ans := K.map fun a => ((a.1 : Int), a.2)
/-- do the members agree with K -/
def agr (f : Nat → Bool) (K : Kn) : Bool := K.all fun a => f a.1 == a.2
theorem agrees_ok {p c : List Nat} (hp : Bits p) (h : Bits c) (hc : c ≠ []) (lp : p.length ≤ 90000) (lc : c.length ≤ 90000) {K : Kn} (hK : ∀ a ∈ K, a.1 ≤ 100000) (hl : K.length ≤ 1000) : Φ_agrees [PSo p c, .tup ((up K).map pairT)] = .ok (.bl (agr (has p c) K), true) := by
  refine bodyR_ret (g := g_agrees) (n := 4) (ds := [PSo p c, .tup ((up K).map pairT)]) (a := ⟨.bl (agr (has p c) K), .pl, true⟩) ?_
  show g_agrees [.sh (PSo p c) false, .sh (.tup ((up K).map pairT)) false, .un, .un] = _
  unfold g_agrees
  have ef := lcF_fm (h := hSeq [2, 3]) (b := false) (t := tTrue) (el := (e2 (gC cEq) (e2 (gC (cInO 35 Φ_PeriodicSet___contains__)) (eVar 2) (eVar 0)) (eVar 3))) (ρ := [.sh (PSo p c) false, .sh (.tup ((up K).map pairT)) false, .un, .un]) (fun _ => true) (fun d => match d with
    | .tup [.int s, .bl b] => .bl (has p c s.toNat == b)
    | _ => .non) (ds := (up K).map pairT) (fun d hd => by
      obtain ⟨a, ha, rfl⟩ := List.mem_map.mp hd
      obtain ⟨k, hk, rfl⟩ := List.mem_map.mp ha
      have hkl := hK k hk
      have c1 : callR Φ_PeriodicSet___contains__ [⟨PSo p c, .pl, false⟩, ⟨.int (k.1 : Int), .pl, true⟩] [] = .ok ⟨.bl (has p c k.1), .pl, true⟩ := callR_new (contains_ok hp h hc lp lc k.1 (by omega))
      refine ⟨[.sh (PSo p c) false, .sh (.tup ((up K).map pairT)) false, .sh (.int (k.1 : Int)) true, .sh (.bl k.2) true], by simp [pairT, hSeq, hNames], rfl, fun _ => ⟨.pl, true, ?_, rfl, rfl⟩⟩
      simp [cInO, c1, blR, cEq_b, pairT])
  rw [show List.filter (fun _ => true) ((up K).map pairT) = (up K).map pairT from List.filter_eq_self.mpr fun _ _ => rfl] at ef
  have el : eLc (iAll (eVar 1)) (hSeq [2, 3]) tTrue (e2 (gC cEq) (e2 (gC (cInO 35 Φ_PeriodicSet___contains__)) (eVar 2) (eVar 0)) (eVar 3)) [2, 3] [.sh (PSo p c) false, .sh (.tup ((up K).map pairT)) false, .un, .un] = .ok ⟨.lst (K.map fun a => .bl (has p c a.1 == a.2)), .nw, true⟩ := by
    have hall : iAll (eVar 1) [.sh (PSo p c) false, .sh (.tup ((up K).map pairT)) false, .un, .un] = .ok ⟨(up K).map pairT, false, false⟩ := by simp
    have e := lc_at (p := (_, true)) (own := [2, 3]) hall rfl (by show ((up K).map pairT).length ≤ 1000000; rw [List.length_map, List.length_map]; omega) ef
    rw [e]
    simp [pairT, Function.comp_def]
  rw [ret_ap, e1_ap, el]
  have eb : bls? (K.map fun a => .bl (has p c a.1 == a.2)) = some (K.map fun a => (has p c a.1 == a.2)) := bls_map _ K
  simp [gAll, seq?, eb, agr, List.all_map, Function.comp_def]
/-- the greatest number of K, plus one -/
def topK : Kn → Nat
  | [] => 0
  | a :: K => max (a.1 + 1) (topK K)
theorem topK_lt : ∀ {K : Kn} {a : Nat × Bool}, a ∈ K → a.1 < topK K
  | b :: K, a, h => by
    unfold topK
    rcases List.mem_cons.mp h with rfl | z
    · omega
    · have := topK_lt z
      omega
theorem topK_le {K : Kn} {t : Nat} (h : ∀ a ∈ K, a.1 < t) : topK K ≤ t := by
  induction K with
  | nil => exact Nat.zero_le _
  | cons b K ih =>
    unfold topK
    have := h b (List.mem_cons_self ..)
    have := ih fun a ha => h a (List.mem_cons_of_mem _ ha)
    omega
theorem imax_top {K : Kn} (hn : K ≠ []) : imax (K.map fun a => (a.1 : Int)) = (topK K : Int) - 1 := by
  obtain ⟨h1, h2⟩ := imax_ge (K.map fun a => (a.1 : Int)) (by simpa using hn)
  obtain ⟨a, ha, e⟩ := List.mem_map.mp h1
  have t1 := topK_lt ha
  have t2 : topK K ≤ a.1 + 1 := topK_le fun b hb => by
    have := h2 _ (List.mem_map.mpr ⟨b, hb, rfl⟩)
    rw [← e] at this
    omega
  omega
theorem ints_map (l : List Int) : ints? (l.map .int) = some l := by
  induction l with
  | nil => rfl
  | cons x l ih =>
    show (ints? (l.map .int)).map _ = _
    rw [ih]
    rfl
/-- how many places are looked at -/
def cnt (p : Nat) (fx : List (List Nat × List Nat)) (bs : List (List Row)) (K : Kn) : Nat := fx.length + (topK K + p) * bs.length
section
variable {p : Nat} {fx : List (List Nat × List Nat)} {bs : List (List Row)} (w : WFam p fx bs)
include w
theorem language_call {z : Nat} (hz : There fx bs z) (hl : z ≤ 70000) {b b' : Bool} : ∃ k, callR Φ_Family_language [⟨famD p fx bs, .pl, b⟩, ⟨.int z, .pl, b'⟩] [] = .ok ⟨PSo (langPS p fx bs z).1 (langPS p fx bs z).2, .pl, k⟩ := by
  obtain ⟨k, e⟩ := language_ok w hz hl
  exact ⟨_, callR_ok (ds := [famD p fx bs, .int z]) rfl e⟩
theorem agree_at {z : Nat} (hz : There fx bs z) (hl : z ≤ 70000) {K : Kn} (hK : ∀ a ∈ K, a.1 ≤ 100000) (hkl : K.length ≤ 1000) : Φ_agrees [PSo (langPS p fx bs z).1 (langPS p fx bs z).2, .tup ((up K).map pairT)] = .ok (.bl (agr (lang p fx bs z) K), true) := by
  obtain ⟨b1, b2, o, dv, ln⟩ := langPS_fix w hz
  have h1 := w.p1
  have h4 := w.p4
  have hne : (langPS p fx bs z).2 ≠ [] := fun e => by rw [e] at o; cases o
  have hle := Nat.le_of_dvd h1 dv
  rw [agrees_ok b1 b2 hne (by omega) (by omega) hK hkl]
  have : has (langPS p fx bs z).1 (langPS p fx bs z).2 = lang p fx bs z := funext fun x => langPS_has w hz x
  rw [this]
theorem there_cnt {K : Kn} {z : Nat} (h : z < cnt p fx bs K) : There fx bs z := fun e => by
  unfold cnt at h
  rw [e] at h
  simpa using h
theorem asked_place_ok {d : D} {l : Int} {K : Kn} (hd : scalar d = false) (hs : Φ_settled [d, .int l] = .ok (.tup ((up K).map pairT), true)) (hK : ∀ a ∈ K, a.1 ≤ 1000) (hkl : K.length ≤ 63) :
    (∀ z, (List.range (cnt p fx bs K)).find? (fun z => agr (lang p fx bs z) K) = some z → Φ_asked_place [famD p fx bs, d, .int l] = .ok (.int z, true)) ∧
    ((List.range (cnt p fx bs K)).find? (fun z => agr (lang p fx bs z) K) = none → Φ_asked_place [famD p fx bs, d, .int l] = .exc 26 []) := by
  have h1 := w.p1
  have h4 := w.p4
  have f6 := w.f6
  have b2 := w.b2
  have ht : topK K ≤ 1001 := topK_le fun a ha => by have := hK a ha; omega
  have hc : cnt p fx bs K ≤ 3000 := by
    unfold cnt
    have : (topK K + p) * bs.length ≤ 1005 * 2 := Nat.mul_le_mul (by omega) b2
    omega
  have cs : callR Φ_settled [⟨d, .pl, false⟩, ⟨.int l, .pl, true⟩] [] = .ok ⟨.tup ((up K).map pairT), .pl, true⟩ := callR_new hs
  have cp : callR Φ_Family_place_count [⟨famD p fx bs, .pl, false⟩] [] = .ok ⟨if bs = [] then .int fx.length else .non, .pl, true⟩ := callR_new (place_count_ok w)
  let St : SV := .sh (.tup ((up K).map pairT)) true
  let E : SV → SV → SV → SV → En := fun a b c e => [.sh (famD p fx bs) false, .sh d false, .sh (.int l) true, a, b, .un, .un, c, e]
  have s1 : sAsg 3 (eCallK Φ_settled 1 1 (aCons (eVar 1) aNil) (aCons (eVar 2) aNil)) (E .un .un .un .un) = .next (E St .un .un .un) := by simp [E, St, hd, cs]
  have em : eMaxDf (eLc (iAll (eVar 3)) (hSeq [5, 6]) tTrue (eVar 5) [5, 6]) (aCons (eNeg (eLit (.int 1))) aNil) (E St .un .un .un) = .ok ⟨.int ((topK K : Int) - 1), .pl, true⟩ := by
    have ef := lcF_fm (h := hSeq [5, 6]) (b := true) (t := tTrue) (el := eVar 5) (ρ := E St .un .un .un) (fun _ => true) (fun d => match d with
      | .tup [.int s, .bl b] => .int s
      | _ => .non) (ds := (up K).map pairT) (fun y hy => by
        obtain ⟨a, ha, rfl⟩ := List.mem_map.mp hy
        obtain ⟨k, hk, rfl⟩ := List.mem_map.mp ha
        refine ⟨[.sh (famD p fx bs) false, .sh d false, .sh (.int l) true, St, .un, .sh (.int (k.1 : Int)) true, .sh (.bl k.2) true, .un, .un], by simp [E, St, pairT, hSeq, hNames], rfl, fun _ => ⟨.pl, true, ?_, rfl, rfl⟩⟩
        simp [pairT])
    rw [show List.filter (fun _ => true) ((up K).map pairT) = (up K).map pairT from List.filter_eq_self.mpr fun _ _ => rfl] at ef
    have hall : iAll (eVar 3) (E St .un .un .un) = .ok ⟨(up K).map pairT, true, false⟩ := by simp [E, St]
    have e := lc_at (p := (_, true)) (own := [5, 6]) hall rfl (by show ((up K).map pairT).length ≤ 1000000; rw [List.length_map, List.length_map]; omega) ef
    have e' : (((up K).map pairT).map fun d => match d with
      | .tup [.int s, .bl b] => D.int s
      | _ => .non) = (K.map fun a => (a.1 : Int)).map .int := by simp [pairT, Function.comp_def]
    rw [e'] at e
    unfold eMaxDf
    rw [e]
    have eg : gMaxDf ⟨.lst ((K.map fun a => (a.1 : Int)).map .int), .nw, true⟩ ⟨.int (-1), .pl, true⟩ = .ok ⟨.int ((topK K : Int) - 1), .pl, true⟩ := by
      unfold gMaxDf
      show ofO (some _) _ = _
      rw [ofO_some, ints_map, ofO_some]
      show ofO (some (-1)) _ = _
      rw [ofO_some, sc_ap]
      by_cases hn : K = []
      · subst hn
        rfl
      · rw [if_neg (by simpa using hn), imax_top hn]
    simp [-List.map_map, eNeg, cInt, eg]
  have s2 : sAsg 4 (eMaxDf (eLc (iAll (eVar 3)) (hSeq [5, 6]) tTrue (eVar 5) [5, 6]) (aCons (eNeg (eLit (.int 1))) aNil)) (E St .un .un .un) = .next (E St (.sh (.int ((topK K : Int) - 1)) true) .un .un) := by
    rw [asg_ap, em]
    simp [E]
  let M : SV := .sh (.int ((topK K : Int) - 1)) true
  have s3 : sAsg 7 (eMeth 18 Φ_Family_place_count 1 [] (eVar 0) aNil) (E St M .un .un) = .next (E St M (.sh (if bs = [] then .int fx.length else .non) true) .un) := by simp [E, cp]
  have s4 : (sIf (t2 cIsN (eVar 7) (eLit .non)) (sAsg 7 (e2 gAdd (e1 gLen (e1 (gFld tab_fixed) (eVar 0))) (e2 gMul (e2 gAdd (e2 gAdd (eVar 4) (e1 (gFld tab_period) (eVar 0))) (eLit (.int 1))) (e1 gLen (e1 (gFld tab_bands) (eVar 0)))))) sNext) (E St M (.sh (if bs = [] then .int fx.length else .non) true) .un) = .next (E St M (.sh (.int (cnt p fx bs K : Nat)) true) .un) := by
    by_cases hb : bs = []
    · have hcn : cnt p fx bs K = fx.length := by simp [cnt, hb]
      rw [if_pos hb, hcn, if_ap]
      simp [E, M, cIsN, nonB]
    · rw [if_neg hb, if_ap]
      have em : gMul ⟨.int ((topK K : Int) - 1 + p + 1), .pl, true⟩ ⟨.int bs.length, .pl, true⟩ = .ok ⟨.int ((((topK K + p) * bs.length : Nat) : Int)), .pl, true⟩ := by
        rw [gMul_i (by omega)]
        have : ((topK K : Int) - 1 + p + 1) = ((topK K + p : Nat) : Int) := by omega
        rw [this, Int.natCast_mul]
      have hcn : (cnt p fx bs K : Int) = (fx.length : Int) + (((topK K + p) * bs.length : Nat) : Int) := by
        unfold cnt
        omega
      rw [hcn]
      generalize (((topK K + p) * bs.length : Nat) : Int) = u at em ⊢
      simp [E, M, cIsN, nonB, List.lookup, em]
  let C : SV := .sh (.int (cnt p fx bs K : Nat)) true
  obtain ⟨l1, l2⟩ := loop_find (lo := 0) (h := hName 8) (b := true) (g := b_asked_place_1) (fun x => E St M C x) (fun z => agr (lang p fx bs z) K) (fun z => ⟨.int z, .pl, true⟩) (List.range (cnt p fx bs K)) .un (fun z hz x => by
    have hzc := List.mem_range.mp hz
    obtain ⟨k, cl⟩ := language_call w (there_cnt w hzc) (by omega) (b := false) (b' := true)
    have ca : callR Φ_agrees [⟨PSo (langPS p fx bs z).1 (langPS p fx bs z).2, .pl, k⟩, ⟨.tup ((up K).map pairT), .pl, true⟩] [] = .ok ⟨.bl (agr (lang p fx bs z) K), .pl, true⟩ := callR_new (agree_at w (there_cnt w hzc) (by omega) (fun a ha => by have := hK a ha; omega) (by omega))
    rw [Int.zero_add]
    refine ⟨E St M C (.sh (.int z) true), .sh (.int z) true, by simp [E], fun hf => ?_, fun hf => ?_⟩
    · unfold b_asked_place_1
      rw [if_ap]
      simp [-List.map_map, E, St, cl, ca, hf]
    · unfold b_asked_place_1
      rw [if_ap]
      simp [-List.map_map, E, St, cl, ca, hf])
  have hr : iR1 (eVar 7) (E St M C .un) = .ok ⟨rng 0 (cnt p fx bs K), true, false⟩ := by
    rw [iR1_at (n := (cnt p fx bs K : Nat)) (m := .pl) (b := true) (by simp [E, C]) (by omega)]
    simp
  refine ⟨fun z hz => bodyR_ret (g := g_asked_place) (n := 9) (ds := [famD p fx bs, d, .int l]) (a := ⟨.int z, .pl, true⟩) ?_, fun hz => ?_⟩
  · show g_asked_place [.sh (famD p fx bs) false, .sh d (scalar d), .sh (.int l) true, .un, .un, .un, .un, .un, .un] = _
    rw [hd]
    unfold g_asked_place
    refine seq_nx s1 (seq_nx s2 (seq_nx s3 (seq_nx s4 (seq_ret ?_))))
    rw [for_ap]
    show (iR1 (eVar 7) (E St M C .un)).toOut _ _ = _
    rw [hr]
    exact l1 z hz
  · obtain ⟨y, ey⟩ := l2 hz
    refine bodyR_exc (g := g_asked_place) (n := 9) (ds := [famD p fx bs, d, .int l]) (ρ := E St M C y) ?_
    show g_asked_place [.sh (famD p fx bs) false, .sh d (scalar d), .sh (.int l) true, .un, .un, .un, .un, .un, .un] = _
    rw [hd]
    unfold g_asked_place
    refine seq_nx s1 (seq_nx s2 (seq_nx s3 (seq_nx s4 (seq_nx (ρ1 := E St M C y) ?_ rfl))))
    rw [for_ap]
    show (iR1 (eVar 7) (E St M C .un)).toOut _ _ = _
    rw [hr]
    exact ey
end
end Pf
set_option maxHeartbeats 1000000
namespace Pf
open PySem L2 Ev
/-! told sets -/
theorem told_set_ok {p c : List Nat} {q : List Nat × List Nat} (hp : Bits p) (h : Bits c) (o : c ≠ []) (lp : p.length ≤ 6000) (lc : c.length ≤ 600) (hq1 : Bits q.1) (hq2 : Bits q.2) (oq : q.2 ≠ []) (l1 : q.1.length ≤ 6000) (l2 : q.2.length ≤ 6000) (e : ∀ x, has p c x = has q.1 q.2 x) : Φ__law_told_set [PSo p c, lineD q] = .ok (.bl true, true) := by
  have hpos := List.length_pos_iff.mpr o
  refine bodyR_ret (g := g__law_told_set) (n := 3) (ds := [PSo p c, lineD q]) (a := ⟨.bl true, .pl, true⟩) ?_
  show g__law_told_set [.sh (PSo p c) false, .sh (lineD q) false, .un] = _
  unfold g__law_told_set
  have lp1 : gLen ⟨.str p, .pl, true⟩ = .ok ⟨.int p.length, .pl, true⟩ := gLen_s (by omega)
  have lc1 : gLen ⟨.str c, .pl, true⟩ = .ok ⟨.int c.length, .pl, true⟩ := gLen_s (by omega)
  have lq1 : gLen ⟨.str q.1, .pl, true⟩ = .ok ⟨.int q.1.length, .pl, true⟩ := gLen_s (by omega)
  have aq : gAt ⟨lineD q, .pl, false⟩ ⟨.int 0, .pl, true⟩ = .ok ⟨.str q.1, .pl, true⟩ := rfl
  have n0 : ¬ (c.length : Int) = 0 := by omega
  have n1 : ¬ (600 : Int) < c.length := by omega
  have n2 : ¬ (6000 : Int) < p.length := by omega
  refine seq_nx (ρ1 := [.sh (PSo p c) false, .sh (lineD q) false, .un]) (by rw [if_ap]; simp [tt_PeriodicSet, tt_str, List.lookup]) ?_
  refine seq_nx (ρ1 := [.sh (PSo p c) false, .sh (lineD q) false, .un]) (by rw [if_ap]; simp [List.lookup, lp1, lc1, cEq_i, n1, n2, o]) ?_
  have em : gMul ⟨.int 12, .pl, true⟩ ⟨.int c.length, .pl, true⟩ = .ok ⟨.int (12 * (c.length : Int)), .pl, true⟩ := gMul_i (by omega)
  obtain ⟨N, hN, hr⟩ : ∃ N : Nat, N ≤ 100000 ∧ iR1 (e2 gAdd (e2 gMax2 (e1 gLen (e1 (gFld tab_prefix) (eVar 0))) (e1 gLen (e2 gAt (eVar 1) (eLit (.int 0))))) (e2 gMul (eLit (.int 12)) (e1 gLen (e1 (gFld tab_cycle) (eVar 0))))) [.sh (PSo p c) false, .sh (lineD q) false, .un] = .ok ⟨rng 0 N, true, false⟩ := by
    refine ⟨((if (q.1.length : Int) > p.length then (q.1.length : Int) else p.length) + 12 * (c.length : Int)).toNat, ?_, ?_⟩
    · split <;> omega
    · refine iR1_at (m := .pl) (b := true) ?_ (by split <;> omega)
      simp [List.lookup, lp1, lc1, lq1, aq, em, gMax_i]
  obtain ⟨x, ex⟩ := loop_keep (h := hName 2) (b := true) (g := b__law_told_set_1) (fun x => [.sh (PSo p c) false, .sh (lineD q) false, x]) (rng 0 N) .un fun d hd x => by
    obtain ⟨k, hk⟩ := List.mem_iff_getElem?.mp hd
    obtain ⟨hkn, rfl⟩ := rng_get hk
    rw [Int.zero_add]
    have c1 : callR Φ__law_in [⟨.lst [.str p, .str c], .nw, true⟩, ⟨.int (k : Int), .pl, true⟩] [] = .ok ⟨.bl (has p c k), .pl, true⟩ := callR_new (law_in_ok (q := (p, c)) hp h o (by simp only; omega) (by simp only; omega) k)
    have c2 : callR Φ__law_in [⟨lineD q, .pl, false⟩, ⟨.int (k : Int), .pl, true⟩] [] = .ok ⟨.bl (has p c k), .pl, true⟩ := by rw [e k]; exact callR_new (law_in_ok hq1 hq2 oq (by omega) (by omega) k)
    refine ⟨[.sh (PSo p c) false, .sh (lineD q) false, .sh (.int k) true], .sh (.int k) true, by simp, ?_⟩
    unfold b__law_told_set_1
    rw [if_ap]
    simp [List.lookup, c1, c2, cNe_b]
  refine seq_nx (ρ1 := [.sh (PSo p c) false, .sh (lineD q) false, x]) ?_ (by simp)
  rw [for_ap, hr]
  exact ex
section
variable {p : Nat} {fx : List (List Nat × List Nat)} {bs : List (List Row)} (w : WRaw p fx bs)
include w
/-- the program's language at a place is the law's -/
theorem told_at {z : Nat} (hz : There fx bs z) (hl : z ≤ 5000) : Φ__law_told_set [PSo (langPS p (built fx) bs z).1 (langPS p (built fx) bs z).2, lineD (lineQ p fx bs z)] = .ok (.bl true, true) := by
  have wf := raw_fam w
  have hz' : There (built fx) bs z := fun e => by simpa using hz e
  obtain ⟨b1, b2, o, dv, ln⟩ := langPS_fix wf hz'
  obtain ⟨k1, k2, ko, kl, kn⟩ := lineQ_fix w hz
  have h1 := w.p1
  have h4 := w.p4
  have hle := Nat.le_of_dvd h1 dv
  exact told_set_ok b1 b2 (fun e => by rw [e] at o; cases o) (by omega) (by omega) k1 k2 (fun e => by rw [e] at ko; cases ko) (by omega) (by omega) fun x => by
    rw [langPS_has wf hz', lang_built w, lineQ_has w hz]
end
/-! told or refused -/
section
variable {p : Nat} {fx : List (List Nat × List Nat)} {bs : List (List Row)} (w : WFam p fx bs) {d : D} {l : Int} {K : Kn} (hd : scalar d = false)
include w hd
theorem asked_yes {z : Nat} (hz : There fx bs z) (hl : z ≤ 70000) (h : Φ_asked_place [famD p fx bs, d, .int l] = .ok (.int z, true)) : ∃ k, Φ_asked [famD p fx bs, d, .int l] = .ok (PSo (langPS p fx bs z).1 (langPS p fx bs z).2, k) := by
  obtain ⟨k, cl⟩ := language_call w hz hl (b := false) (b' := true)
  have ca : callR Φ_asked_place [⟨famD p fx bs, .pl, false⟩, ⟨d, .pl, false⟩, ⟨.int l, .pl, true⟩] [] = .ok ⟨.int z, .pl, true⟩ := callR_new h
  refine ⟨k, bodyR_ret (g := g_asked) (n := 3) (ds := [famD p fx bs, d, .int l]) (a := ⟨PSo (langPS p fx bs z).1 (langPS p fx bs z).2, .pl, k⟩) ?_⟩
  show g_asked [.sh (famD p fx bs) false, .sh d (scalar d), .sh (.int l) true] = _
  rw [hd]
  unfold g_asked
  simp [hd, ca, cl]
end
/-! the least place, looked for further -/
theorem find_far {f : Nat → Bool} {m n : Nat} (h : m ≤ n) (hf : ∀ z, m ≤ z → z < n → f z = true → ∃ y, y < z ∧ f y = true) : (List.range n).find? f = (List.range m).find? f := by
  have none_below : (List.range m).find? f = none → ∀ z, z < n → f z = false := by
    intro h0 z
    induction z using Nat.strongRecOn with
    | _ z ih =>
      intro hz
      by_cases hm : z < m
      · have := List.find?_eq_none.mp h0 z (List.mem_range.mpr hm)
        simpa using this
      · cases hz' : f z with
        | false => rfl
        | true =>
          obtain ⟨y, hy, hy'⟩ := hf z (by omega) hz hz'
          rw [ih y hy (by omega)] at hy'
          cases hy'
  obtain ⟨k, rfl⟩ : ∃ k, n = m + k := ⟨n - m, by omega⟩
  rw [List.range_add, List.find?_append]
  cases h0 : (List.range m).find? f with
  | some z => rfl
  | none =>
    show List.find? f _ = none
    refine List.find?_eq_none.mpr fun y hy => ?_
    obtain ⟨i, hi, rfl⟩ := List.mem_map.mp hy
    have := none_below h0 (m + i) (by have := List.mem_range.mp hi; omega)
    simpa using this
theorem agr_far {p : Nat} {fx : List (List Nat × List Nat)} {bs : List (List Row)} (h1 : 1 ≤ p) {K : Kn} {z : Nat} (hz : cnt p fx bs K ≤ z) (h : agr (lang p fx bs z) K = true) (hb : 0 < bs.length) : ∃ y, y < z ∧ agr (lang p fx bs y) K = true := by
  have hc : fx.length + (topK K + p) * bs.length ≤ z := hz
  have hpb : p * bs.length ≤ (topK K + p) * bs.length := Nat.mul_le_mul_right _ (by omega)
  have hpp : 0 < p * bs.length := Nat.mul_pos h1 hb
  refine ⟨z - p * bs.length, by omega, ?_⟩
  unfold agr at h ⊢
  rw [List.all_eq_true] at h ⊢
  intro a ha
  have h0 := h a ha
  have ht := topK_lt ha
  rw [← h0]
  congr 1
  have n1 : fx[z - p * bs.length]? = none := List.getElem?_eq_none (by omega)
  have n2 : fx[z]? = none := List.getElem?_eq_none (by omega)
  unfold lang
  rw [n1, n2]
  simp only
  have e0 : z - p * bs.length - fx.length = (z - fx.length) - p * bs.length := by omega
  have e1' : (z - fx.length - p * bs.length) % bs.length = (z - fx.length) % bs.length := by
    rw [Nat.mul_comm p]
    exact Nat.sub_mul_mod (by rw [Nat.mul_comm]; omega)
  have e2' : (z - fx.length - p * bs.length) / bs.length = (z - fx.length) / bs.length - p := by
    rw [Nat.mul_comm p]
    exact Nat.sub_mul_div _ _ _
  rw [e0, e1', e2']
  cases bs[(z - fx.length) % bs.length]? with
  | none => rfl
  | some b =>
    simp only
    have hn : topK K + p ≤ (z - fx.length) / bs.length := (Nat.le_div_iff_mul_le hb).mpr (by omega)
    generalize (z - fx.length) / bs.length = n at hn ⊢
    unfold bandHas
    have em : (n - p) % p = n % p := (Nat.mod_eq_sub_mod (by omega)).symm
    rw [em]
    cases b[n % p]? with
    | none => rfl
    | some r =>
      simp only
      rw [if_neg (show ¬ a.1 = n - p by omega), if_pos (show a.1 < n - p by omega), if_neg (show ¬ a.1 = n by omega), if_pos (show a.1 < n by omega)]
/-- the law looks further -/
theorem find_law {p : Nat} {fx : List (List Nat × List Nat)} {bs : List (List Row)} (h1 : 1 ≤ p) {K : Kn} {t : Nat} (ht : topK K ≤ t) : (List.range (fx.length + (t + 2 * p) * bs.length)).find? (fun z => agr (lang p fx bs z) K) = (List.range (cnt p fx bs K)).find? fun z => agr (lang p fx bs z) K := by
  refine find_far ?_ fun z hz hzn h => ?_
  · unfold cnt
    have : (topK K + p) * bs.length ≤ (t + 2 * p) * bs.length := Nat.mul_le_mul_right _ (by omega)
    omega
  · refine agr_far h1 hz h ?_
    refine Nat.pos_of_ne_zero fun e => ?_
    unfold cnt at hz
    rw [e] at hz hzn
    omega
end Pf
set_option maxHeartbeats 1000000
namespace Pf
open PySem L2 Ev
/-! sets combined -/
abbrev pick (t : List Nat) (q : Nat × Nat) : Nat := (t[2 * (q.1 - 48) + (q.2 - 48)]?).getD 48
def mrg (t l r : List Nat) : List Nat := (l.zip r).map (pick t)
theorem gIntA_b {c : Nat} (h : c = 48 ∨ c = 49) {m : Mk3} {b : Bool} : gIntA ⟨.str [c], m, b⟩ = .ok ⟨.int ((c - 48 : Nat) : Int), .pl, true⟩ := by
  rcases h with rfl | rfl <;> rfl
theorem merged_ok {l r t : List Nat} (hl : Bits l) (hr : Bits r) (ht : t.length = 4) (hll : l.length ≤ 1000000) : Φ_merged [.str l, .str r, .str t] = .ok (.str (mrg t l r), true) := by
  refine bodyR_ret (g := g_merged) (n := 5) (ds := [.str l, .str r, .str t]) (a := ⟨.str (mrg t l r), .pl, true⟩) ?_
  show g_merged [.sh (.str l) true, .sh (.str r) true, .sh (.str t) true, .un, .un] = _
  unfold g_merged
  have ef := lcF_fm (h := hSeq [3, 4]) (b := true) (t := tTrue) (el := (e2 gAt (eVar 2) (e2 gAdd (e2 gMul (eLit (.int 2)) (e1 gIntA (eVar 3))) (e1 gIntA (eVar 4))))) (ρ := [.sh (.str l) true, .sh (.str r) true, .sh (.str t) true, .un, .un]) (fun _ => true) (fun d => match d with
    | .tup [.str [a], .str [b]] => .str [pick t (a, b)]
    | _ => .non) (ds := zipD l r) (fun d hd => by
      obtain ⟨q, hq, rfl⟩ := List.mem_map.mp hd
      obtain ⟨a, b⟩ := q
      have ha := hl a (List.of_mem_zip hq).1
      have hb := hr b (List.of_mem_zip hq).2
      have hk : 2 * (a - 48) + (b - 48) < 4 := by omega
      obtain ⟨u, hu⟩ : ∃ u, t[2 * (a - 48) + (b - 48)]? = some u := ⟨_, List.getElem?_eq_getElem (by omega)⟩
      have em : gMul ⟨.int 2, .pl, true⟩ ⟨.int ((a - 48 : Nat) : Int), .pl, true⟩ = .ok ⟨.int (2 * ((a - 48 : Nat) : Int)), .pl, true⟩ := gMul_i (by omega)
      have ga : gAt ⟨.str t, .pl, true⟩ ⟨.int (2 * ((a - 48 : Nat) : Int) + ((b - 48 : Nat) : Int)), .pl, true⟩ = .ok ⟨.str [u], .pl, true⟩ := gAt_s (by rw [atI_eq (k := 2 * (a - 48) + (b - 48)) (by omega)]; exact hu) (by omega)
      have i1 := gIntA_b ha (m := .pl) (b := true)
      have i2 := gIntA_b hb (m := .pl) (b := true)
      generalize ((a - 48 : Nat) : Int) = x at em ga i1
      generalize ((b - 48 : Nat) : Int) = y at ga i2
      refine ⟨[.sh (.str l) true, .sh (.str r) true, .sh (.str t) true, .sh (.str [a]) true, .sh (.str [b]) true], by simp [hSeq, hNames], rfl, fun _ => ⟨.pl, true, ?_, rfl, rfl⟩⟩
      simp [em, ga, i1, i2, pick, hu])
  rw [show List.filter (fun _ => true) (zipD l r) = zipD l r from List.filter_eq_self.mpr fun _ _ => rfl] at ef
  have hit : iZip (eVar 0) (eVar 1) [.sh (.str l) true, .sh (.str r) true, .sh (.str t) true, .un, .un] = .ok ⟨zipD l r, true, false⟩ := rfl
  have hzl : (l.zip r).length ≤ 1000000 := by rw [List.length_zip]; omega
  have e := lc_at (p := (_, true)) (own := [3, 4]) hit rfl (by show (zipD l r).length ≤ 1000000; unfold zipD; rw [List.length_map]; exact hzl) ef
  have e' : ((zipD l r).map fun d => match d with
    | .tup [.str [a], .str [b]] => D.str [pick t (a, b)]
    | _ => .non) = (mrg t l r).map fun c => .str [c] := by
    unfold zipD mrg
    rw [List.map_map, List.map_map]
    rfl
  rw [e'] at e
  rw [ret_ap]
  unfold eJoin
  rw [lit_ap, bind_ok']
  show (ofO (some []) _).toOut _ _ = _
  rw [ofO_some, e, bind_ok', gJoin_one rfl (by unfold mrg; rw [List.length_map]; exact hzl)]
  rfl
theorem mrg_len {t l r : List Nat} (h : l.length = r.length) : (mrg t l r).length = l.length := by
  unfold mrg
  rw [List.length_map, List.length_zip, h, Nat.min_self]
theorem mrg_get {t l r : List Nat} {i a b : Nat} (h1 : l[i]? = some a) (h2 : r[i]? = some b) : (mrg t l r)[i]? = some (pick t (a, b)) := by
  unfold mrg
  rw [List.getElem?_map, (List.getElem?_zip_eq_some (z := (a, b))).mpr ⟨h1, h2⟩]
  rfl
theorem mrg_bits {t l r : List Nat} (ht : Bits t) : Bits (mrg t l r) := fun c hc => by
  obtain ⟨q, _, rfl⟩ := List.mem_map.mp hc
  unfold pick
  cases h : t[2 * (q.1 - 48) + (q.2 - 48)]? with
  | none => exact .inl rfl
  | some u => exact ht u (List.mem_of_getElem? h)
def comb (t : List Nat) (q r : List Nat × List Nat) : List Nat × List Nat :=
  (mrg t (unf q.1 q.2 (max q.1.length r.1.length)) (unf r.1 r.2 (max q.1.length r.1.length)),
   mrg t (rept q.2 (Nat.lcm q.2.length r.2.length / q.2.length)) (rept r.2 (Nat.lcm q.2.length r.2.length / r.2.length)))
/-- a set's parts, of moderate size -/
structure WQ (q : List Nat × List Nat) : Prop where
  b1 : Bits q.1
  b2 : Bits q.2
  ne : q.2 ≠ []
  l1 : q.1.length ≤ 20000
  l2 : q.2.length ≤ 100
section
variable {q r : List Nat × List Nat} (wq : WQ q) (wr : WQ r) {t : List Nat} (ht : t.length = 4)
include wq wr
theorem lcm_facts : 0 < Nat.lcm q.2.length r.2.length ∧ Nat.lcm q.2.length r.2.length ≤ 10000 ∧ Nat.lcm q.2.length r.2.length / q.2.length * q.2.length = Nat.lcm q.2.length r.2.length ∧ Nat.lcm q.2.length r.2.length / r.2.length * r.2.length = Nat.lcm q.2.length r.2.length := by
  have p1 := List.length_pos_iff.mpr wq.ne
  have p2 := List.length_pos_iff.mpr wr.ne
  refine ⟨Nat.lcm_pos p1 p2, ?_, Nat.div_mul_cancel (Nat.dvd_lcm_left _ _), Nat.div_mul_cancel (Nat.dvd_lcm_right _ _)⟩
  have h1 : Nat.lcm q.2.length r.2.length ≤ q.2.length * r.2.length := Nat.le_of_dvd (Nat.mul_pos p1 p2) (Nat.lcm_dvd (Nat.dvd_mul_right _ _) (Nat.dvd_mul_left _ _))
  have h2 : q.2.length * r.2.length ≤ 100 * 100 := Nat.mul_le_mul wq.l2 wr.l2
  omega
theorem comb_len : (comb t q r).1.length = max q.1.length r.1.length ∧ (comb t q r).2.length = Nat.lcm q.2.length r.2.length := by
  obtain ⟨a1, a2, a3, a4⟩ := lcm_facts wq wr
  unfold comb
  refine ⟨?_, ?_⟩
  · show (mrg _ _ _).length = _
    rw [mrg_len (by rw [unf_len wq.ne, unf_len wr.ne]), unf_len wq.ne]
  · show (mrg _ _ _).length = _
    rw [mrg_len (by rw [rept_len, rept_len, a3, a4]), rept_len, a3]
theorem comb_wp (hb : Bits t) : WP (comb t q r).1 (comb t q r).2 := by
  obtain ⟨a1, a2, a3, a4⟩ := lcm_facts wq wr
  obtain ⟨c1, c2⟩ := comb_len wq wr (t := t)
  have := wq.l1
  have := wr.l1
  exact ⟨mrg_bits hb, mrg_bits hb, fun z => by rw [z] at c2; simp at c2; omega, by omega, by unfold Few; omega⟩
/-- the bit of a set at x -/
def bitAt (q : List Nat × List Nat) (x : Nat) : Nat := ((if x < q.1.length then q.1[x]? else q.2[x % q.2.length]?)).getD 48
omit wr in
theorem bitAt_some (x : Nat) : (if x < q.1.length then q.1[x]? else q.2[x % q.2.length]?) = some (bitAt q x) := by
  have p1 := List.length_pos_iff.mpr wq.ne
  unfold bitAt
  by_cases h : x < q.1.length
  · rw [if_pos h, List.getElem?_eq_getElem h]
    rfl
  · have : x % q.2.length < q.2.length := Nat.mod_lt _ p1
    rw [if_neg h, List.getElem?_eq_getElem this]
    rfl
omit wr in
theorem bitAt_has (x : Nat) : has q.1 q.2 x = (bitAt q x == 49) ∧ (bitAt q x = 48 ∨ bitAt q x = 49) := by
  have h := bitAt_some wq x
  unfold has
  by_cases hx : x < q.1.length
  · rw [if_pos hx] at h ⊢
    exact ⟨by rw [h]; rfl, wq.b1 _ (List.mem_of_getElem? h)⟩
  · rw [if_neg hx] at h ⊢
    exact ⟨by rw [h]; rfl, wq.b2 _ (List.mem_of_getElem? h)⟩
theorem comb_has (x : Nat) : has (comb t q r).1 (comb t q r).2 x = (pick t (bitAt q x, bitAt r x) == 49) := by
  obtain ⟨a1, a2, a3, a4⟩ := lcm_facts wq wr
  obtain ⟨c1, c2⟩ := comb_len wq wr (t := t)
  have h1 := bitAt_some wq x
  have h2 := bitAt_some wr x
  unfold has
  rw [c1, c2]
  by_cases hx : x < max q.1.length r.1.length
  · rw [if_pos hx]
    have e : (comb t q r).1[x]? = some (pick t (bitAt q x, bitAt r x)) := mrg_get (by rw [unf_get wq.ne hx]; exact h1) (by rw [unf_get wr.ne hx]; exact h2)
    rw [e]
    rfl
  · rw [if_neg hx]
    rw [if_neg (by omega)] at h1 h2
    have hm : x % Nat.lcm q.2.length r.2.length < Nat.lcm q.2.length r.2.length := Nat.mod_lt _ a1
    have e : (comb t q r).2[x % Nat.lcm q.2.length r.2.length]? = some (pick t (bitAt q x, bitAt r x)) := mrg_get (by rw [rept_get _ _ _ (by rw [a3]; exact hm), Nat.mod_mod_of_dvd _ (Nat.dvd_lcm_left _ _)]; exact h1) (by rw [rept_get _ _ _ (by rw [a4]; exact hm), Nat.mod_mod_of_dvd _ (Nat.dvd_lcm_right _ _)]; exact h2)
    rw [e]
    rfl
abbrev pairD (q : List Nat × List Nat) : D := .tup [.str q.1, .str q.2]
include ht in
theorem combined_ok : Φ_combined [pairD q, pairD r, .str t] = .ok (pairD (comb t q r), true) := by
  obtain ⟨a1, a2, a3, a4⟩ := lcm_facts wq wr
  have p1 := List.length_pos_iff.mpr wq.ne
  have p2 := List.length_pos_iff.mpr wr.ne
  have := wq.l1
  have := wr.l1
  have := wq.l2
  have := wr.l2
  refine bodyR_ret (g := g_combined) (n := 8) (ds := [pairD q, pairD r, .str t]) (a := ⟨pairD (comb t q r), .pl, true⟩) ?_
  let E : SV → SV → SV → SV → SV → En := fun a b c d e => [.sh (pairD q) false, .sh (pairD r) false, .sh (.str t) true, a, b, c, d, e]
  show g_combined (E .un .un .un .un .un) = _
  unfold g_combined
  have q0 : gAt ⟨pairD q, .pl, false⟩ ⟨.int 0, .pl, true⟩ = .ok ⟨.str q.1, .pl, true⟩ := rfl
  have q1 : gAt ⟨pairD q, .pl, false⟩ ⟨.int 1, .pl, true⟩ = .ok ⟨.str q.2, .pl, true⟩ := rfl
  have r0 : gAt ⟨pairD r, .pl, false⟩ ⟨.int 0, .pl, true⟩ = .ok ⟨.str r.1, .pl, true⟩ := rfl
  have r1 : gAt ⟨pairD r, .pl, false⟩ ⟨.int 1, .pl, true⟩ = .ok ⟨.str r.2, .pl, true⟩ := rfl
  have lq1 : gLen ⟨.str q.1, .pl, true⟩ = .ok ⟨.int q.1.length, .pl, true⟩ := gLen_s (by omega)
  have lq2 : gLen ⟨.str q.2, .pl, true⟩ = .ok ⟨.int q.2.length, .pl, true⟩ := gLen_s (by omega)
  have lr1 : gLen ⟨.str r.1, .pl, true⟩ = .ok ⟨.int r.1.length, .pl, true⟩ := gLen_s (by omega)
  have lr2 : gLen ⟨.str r.2, .pl, true⟩ = .ok ⟨.int r.2.length, .pl, true⟩ := gLen_s (by omega)
  have em : gMax2 ⟨.int q.1.length, .pl, true⟩ ⟨.int r.1.length, .pl, true⟩ = .ok ⟨.int ((max q.1.length r.1.length : Nat) : Int), .pl, true⟩ := by
    rw [gMax_i]
    congr 3
    split <;> omega
  have el : gLcm ⟨.int q.2.length, .pl, true⟩ ⟨.int r.2.length, .pl, true⟩ = .ok ⟨.int ((Nat.lcm q.2.length r.2.length : Nat) : Int), .pl, true⟩ := by
    show ofO (if _ then _ else _) _ = _
    rw [if_pos (by omega)]
    rfl
  have hc : comb t q r = (mrg t (unf q.1 q.2 (max q.1.length r.1.length)) (unf r.1 r.2 (max q.1.length r.1.length)), mrg t (rept q.2 (Nat.lcm q.2.length r.2.length / q.2.length)) (rept r.2 (Nat.lcm q.2.length r.2.length / r.2.length))) := rfl
  have hS : max q.1.length r.1.length ≤ 20000 := by omega
  have hx1 : Nat.lcm q.2.length r.2.length / q.2.length ≤ 10000 := Nat.le_trans (Nat.div_le_self _ _) a2
  have hx2 : Nat.lcm q.2.length r.2.length / r.2.length ≤ 10000 := Nat.le_trans (Nat.div_le_self _ _) a2
  have d1 : gDivI ⟨.int ((Nat.lcm q.2.length r.2.length : Nat) : Int), .pl, true⟩ ⟨.int q.2.length, .pl, true⟩ = .ok ⟨.int ((Nat.lcm q.2.length r.2.length / q.2.length : Nat) : Int), .pl, true⟩ := by rw [gDiv_i (by omega), Int.natCast_ediv]
  have d2 : gDivI ⟨.int ((Nat.lcm q.2.length r.2.length : Nat) : Int), .pl, true⟩ ⟨.int r.2.length, .pl, true⟩ = .ok ⟨.int ((Nat.lcm q.2.length r.2.length / r.2.length : Nat) : Int), .pl, true⟩ := by rw [gDiv_i (by omega), Int.natCast_ediv]
  rw [hc]
  generalize max q.1.length r.1.length = S at *
  generalize Nat.lcm q.2.length r.2.length = L at *
  generalize L / q.2.length = u at *
  generalize L / r.2.length = v at *
  have u1 : callR Φ_unfolded [⟨.str q.1, .pl, true⟩, ⟨.str q.2, .pl, true⟩, ⟨.int (S : Int), .pl, true⟩] [] = .ok ⟨.str (unf q.1 q.2 S), .pl, true⟩ := callR_new (unfolded_ok wq.ne (by omega) (by omega) S (by omega))
  have u2 : callR Φ_unfolded [⟨.str r.1, .pl, true⟩, ⟨.str r.2, .pl, true⟩, ⟨.int (S : Int), .pl, true⟩] [] = .ok ⟨.str (unf r.1 r.2 S), .pl, true⟩ := callR_new (unfolded_ok wr.ne (by omega) (by omega) S (by omega))
  have m1 : callR Φ_merged [⟨.str (unf q.1 q.2 S), .pl, true⟩, ⟨.str (unf r.1 r.2 S), .pl, true⟩, ⟨.str t, .pl, true⟩] [] = .ok ⟨.str (mrg t (unf q.1 q.2 S) (unf r.1 r.2 S)), .pl, true⟩ := callR_new (merged_ok (unf_bits wq.b1 wq.b2 S) (unf_bits wr.b1 wr.b2 S) ht (by rw [unf_len wq.ne]; omega))
  have m2 : callR Φ_merged [⟨.str (rept q.2 u), .pl, true⟩, ⟨.str (rept r.2 v), .pl, true⟩, ⟨.str t, .pl, true⟩] [] = .ok ⟨.str (mrg t (rept q.2 u) (rept r.2 v)), .pl, true⟩ := callR_new (merged_ok (wq.b2.rept u) (wr.b2.rept v) ht (by rw [rept_len]; omega))
  have g1 : gMul ⟨.str q.2, .pl, true⟩ ⟨.int (u : Int), .pl, true⟩ = .ok ⟨.str (rept q.2 u), .pl, true⟩ := by
    rw [gMul_s ⟨by omega, by omega, by rw [Int.toNat_natCast, Nat.mul_comm]; omega⟩, Int.toNat_natCast]
    rfl
  have g2 : gMul ⟨.str r.2, .pl, true⟩ ⟨.int (v : Int), .pl, true⟩ = .ok ⟨.str (rept r.2 v), .pl, true⟩ := by
    rw [gMul_s ⟨by omega, by omega, by rw [Int.toNat_natCast, Nat.mul_comm]; omega⟩, Int.toNat_natCast]
    rfl
  let M : SV := .sh (.str (mrg t (unf q.1 q.2 S) (unf r.1 r.2 S))) true
  refine seq_nx (ρ1 := E (.sh (.int S) true) .un .un .un .un) (by simp [E, q0, r0, lq1, lr1, em]) ?_
  refine seq_nx (ρ1 := E (.sh (.int S) true) (.sh (.int L) true) .un .un .un) (by simp [E, q1, r1, lq2, lr2, el]) ?_
  refine seq_nx (ρ1 := E (.sh (.int S) true) (.sh (.int L) true) M .un .un) (by simp [E, M, q0, q1, r0, r1, u1, u2, m1]) ?_
  refine seq_nx (ρ1 := E (.sh (.int S) true) (.sh (.int L) true) M (.sh (.str (rept q.2 u)) true) .un) (by simp [E, q1, lq2, d1, g1]) ?_
  refine seq_nx (ρ1 := E (.sh (.int S) true) (.sh (.int L) true) M (.sh (.str (rept q.2 u)) true) (.sh (.str (rept r.2 v)) true)) (by simp [E, r1, lr2, d2, g2]) ?_
  simp [E, M, m2]
end
def txor : List Nat := [48, 49, 49, 48]
theorem xor_ok {q r : List Nat × List Nat} (wq : WQ q) (wr : WQ r) : Φ_PeriodicSet___xor__ [PSo q.1 q.2, PSo r.1 r.2] = .ok (PSo (least (comb txor q r)).1 (least (comb txor q r)).2, true) := by
  have c1 : callR Φ_combined [⟨pairD q, .pl, true⟩, ⟨pairD r, .pl, true⟩, ⟨.str [48, 49, 49, 48], .pl, true⟩] [] = .ok ⟨pairD (comb txor q r), .pl, true⟩ := callR_new (combined_ok wq wr (t := txor) rfl)
  have n1 := new_ps (comb_wp wq wr (t := txor) (fun c hc => by simp [txor] at hc; omega)) (b := true) (b' := true)
  refine bodyR_ret (g := g_PeriodicSet___xor__) (n := 3) (ds := [PSo q.1 q.2, PSo r.1 r.2]) (a := ⟨PSo (least (comb txor q r)).1 (least (comb txor q r)).2, .pl, true⟩) ?_
  show g_PeriodicSet___xor__ [.sh (PSo q.1 q.2) false, .sh (PSo r.1 r.2) false, .un] = _
  unfold g_PeriodicSet___xor__
  have a0 : gAt ⟨pairD (comb txor q r), .pl, true⟩ ⟨.int 0, .pl, true⟩ = .ok ⟨.str (comb txor q r).1, .pl, true⟩ := rfl
  have a1 : gAt ⟨pairD (comb txor q r), .pl, true⟩ ⟨.int 1, .pl, true⟩ = .ok ⟨.str (comb txor q r).2, .pl, true⟩ := rfl
  refine seq_nx (ρ1 := [.sh (PSo q.1 q.2) false, .sh (PSo r.1 r.2) false, .sh (pairD (comb txor q r)) true]) (by simp [List.lookup, c1]) ?_
  generalize comb txor q r = s at *
  simp [a0, a1, n1, least]
theorem xor_has {q r : List Nat × List Nat} (wq : WQ q) (wr : WQ r) (x : Nat) : has (least (comb txor q r)).1 (least (comb txor q r)).2 x = (has q.1 q.2 x != has r.1 r.2 x) := by
  have w := comb_wp wq wr (t := txor) (fun c hc => by simp [txor] at hc; omega)
  rw [show has (least (comb txor q r)).1 (least (comb txor q r)).2 x = has (comb txor q r).1 (comb txor q r).2 x from has_least w.ne x, comb_has wq wr]
  obtain ⟨h1, h2⟩ := bitAt_has wq x
  obtain ⟨h3, h4⟩ := bitAt_has wr x
  rw [h1, h3]
  rcases h2 with h2 | h2 <;> rcases h4 with h4 | h4 <;> rw [h2, h4] <;> rfl
end Pf
set_option maxHeartbeats 1000000
namespace Pf
open PySem L2 Ev
/-! the least member -/
def optD : Option Nat → D
  | some x => .int (x : Int)
  | none => .non
theorem after_ok {p c : List Nat} (hp : Bits p) (h : Bits c) (hc : c ≠ []) (lp : p.length ≤ 40000) (lc : c.length ≤ 40000) (s : Nat) (hs : s ≤ 100000) : Φ_PeriodicSet_after [PSo p c, .int ((s : Int) - 1)] = .ok (optD (((List.range (max s p.length + c.length - s)).find? fun i => has p c (s + i)).map (s + ·)), true) := by
  have lp1 : gLen ⟨.str p, .pl, true⟩ = .ok ⟨.int p.length, .pl, true⟩ := gLen_s (by omega)
  have lc1 : gLen ⟨.str c, .pl, true⟩ = .ok ⟨.int c.length, .pl, true⟩ := gLen_s (by omega)
  let E : SV → SV → En := fun a b => [.sh (PSo p c) false, .sh (.int ((s : Int) - 1)) true, a, b]
  let S : SV := .sh (.int (s : Int)) true
  have hit : iR2 (eVar 2) (e2 gAdd (e2 gMax2 (eVar 2) (e1 gLen (e1 (gFld tab_prefix) (eVar 0)))) (e1 gLen (e1 (gFld tab_cycle) (eVar 0)))) (E S .un) = .ok ⟨(List.range (max s p.length + c.length - s)).map fun (i : Nat) => .int ((s : Int) + (i : Int)), true, false⟩ := by
    have e : (e2 gAdd (e2 gMax2 (eVar 2) (e1 gLen (e1 (gFld tab_prefix) (eVar 0)))) (e1 gLen (e1 (gFld tab_cycle) (eVar 0)))) (E S .un) = .ok ⟨.int ((max s p.length + c.length : Nat) : Int), .pl, true⟩ := by
      have : (if (p.length : Int) > s then (p.length : Int) else s) + c.length = ((max s p.length + c.length : Nat) : Int) := by split <;> omega
      rw [← this]
      simp [E, S, List.lookup, lp1, lc1, gMax_i]
    unfold iR2
    rw [e]
    have e0 : eVar 2 (E S .un) = .ok ⟨.int (s : Int), .pl, true⟩ := by simp [E, S]
    rw [e0, bind_ok', bind_ok']
    show ofO (some (s : Int)) _ = _
    rw [ofO_some]
    show ofO (some ((max s p.length + c.length : Nat) : Int)) _ = _
    rw [ofO_some, if_pos (by omega)]
    have : ((((max s p.length + c.length : Nat) : Int)) - (s : Int)).toNat = max s p.length + c.length - s := by omega
    rw [this]
    rfl
  obtain ⟨l1, l2⟩ := loop_find (lo := (s : Int)) (h := hName 3) (b := true) (g := b_PeriodicSet_after_1) (fun x => E S x) (fun i => has p c (s + i)) (fun i => ⟨.int ((s : Int) + i), .pl, true⟩) (List.range (max s p.length + c.length - s)) .un (fun z hz x => by
    have hzc := List.mem_range.mp hz
    have ca : callR Φ_has_bit [⟨.str p, .pl, true⟩, ⟨.str c, .pl, true⟩, ⟨.int ((s : Int) + z), .pl, true⟩] [] = .ok ⟨.bl (has p c (s + z)), .pl, true⟩ := by
      rw [show (s : Int) + z = ((s + z : Nat) : Int) by omega]
      exact callR_new (has_bit_ok hp h hc (by omega) (by omega) (s + z) (by omega))
    refine ⟨E S (.sh (.int ((s : Int) + z)) true), .sh (.int ((s : Int) + z)) true, by simp [E], fun hf => ?_, fun hf => ?_⟩
    · unfold b_PeriodicSet_after_1
      rw [if_ap]
      simp [E, S, List.lookup, ca, hf]
    · unfold b_PeriodicSet_after_1
      rw [if_ap]
      simp [E, S, List.lookup, ca, hf])
  refine bodyR_ret (g := g_PeriodicSet_after) (n := 4) (ds := [PSo p c, .int ((s : Int) - 1)]) (a := ⟨optD (((List.range (max s p.length + c.length - s)).find? fun i => has p c (s + i)).map (s + ·)), .pl, true⟩) ?_
  show g_PeriodicSet_after (E .un .un) = _
  unfold g_PeriodicSet_after
  have s1 : sAsg 2 (e2 gAdd (eVar 1) (eLit (.int 1))) (E .un .un) = .next (E S .un) := by
    have : (s : Int) - 1 + 1 = s := by omega
    simp [E, S, this]
  refine seq_nx s1 ?_
  cases hf : (List.range (max s p.length + c.length - s)).find? fun i => has p c (s + i) with
  | some i =>
    refine seq_ret ?_
    rw [for_ap, hit]
    exact (l1 i hf).trans rfl
  | none =>
    obtain ⟨y, ey⟩ := l2 hf
    refine seq_nx (ρ1 := E S y) ?_ rfl
    rw [for_ap, hit]
    exact ey
theorem least_ok {p c : List Nat} (hp : Bits p) (h : Bits c) (hc : c ≠ []) (lp : p.length ≤ 40000) (lc : c.length ≤ 40000) : Φ_PeriodicSet_least [PSo p c] = .ok (optD ((List.range (p.length + c.length)).find? (has p c)), true) := by
  have ha := after_ok hp h hc lp lc 0 (by omega)
  have e : (fun i => has p c (0 + i)) = has p c := funext fun i => by rw [Nat.zero_add]
  have e2' : max 0 p.length + c.length - 0 = p.length + c.length := by omega
  have e3' : ((0 : Nat) : Int) - 1 = -1 := by omega
  rw [e, e2', e3', show (fun x => 0 + x : Nat → Nat) = id from funext fun x => Nat.zero_add x, Option.map_id, id] at ha
  have ca : callR Φ_PeriodicSet_after [⟨PSo p c, .pl, false⟩, ⟨.int (-1), .pl, true⟩] [] = .ok ⟨optD ((List.range (p.length + c.length)).find? (has p c)), .pl, true⟩ := callR_new ha
  refine bodyR_ret (g := g_PeriodicSet_least) (n := 1) (ds := [PSo p c]) (a := ⟨optD ((List.range (p.length + c.length)).find? (has p c)), .pl, true⟩) ?_
  show g_PeriodicSet_least [.sh (PSo p c) false] = _
  unfold g_PeriodicSet_least
  simp [eNeg, cInt, ca]
/-! found within a period -/
theorem find_per {f : Nat → Bool} {s1 q1 s2 q2 n1 n2 : Nat} (h1 : ∀ x, s1 ≤ x → f (x + q1) = f x) (h2 : ∀ x, s2 ≤ x → f (x + q2) = f x) (p1 : 0 < q1) (p2 : 0 < q2) (l1 : s1 + q1 ≤ n1) (l2 : s2 + q2 ≤ n2) : (List.range n1).find? f = (List.range n2).find? f := by
  have far : ∀ {s q m n : Nat}, (∀ x, s ≤ x → f (x + q) = f x) → 0 < q → s + q ≤ m → m ≤ n → (List.range n).find? f = (List.range m).find? f := fun {s q m n} h pq hm hn =>
    find_far hn fun z hz _ hf => ⟨z - q, by omega, by
      have := h (z - q) (by omega)
      rw [show z - q + q = z by omega] at this
      rw [← this]
      exact hf⟩
  by_cases h : n1 ≤ n2
  · exact (far h1 p1 l1 h).symm
  · exact far h2 p2 l2 (by omega)
theorem has_per {p c : List Nat} (q : Nat) (hq : c.length ∣ q) {x : Nat} (hx : p.length ≤ x) : has p c (x + q) = has p c x := by
  unfold has
  rw [if_neg (by omega), if_neg (by omega)]
  obtain ⟨k, rfl⟩ := hq
  rw [Nat.add_mul_mod_self_left]
/-- the greatest of the numbers found, -1 if there is none -/
def ptN (F : Nat → Option Nat) : Nat → Int
  | 0 => -1
  | n + 1 => match F n with
    | some x => if (x : Int) > ptN F n then x else ptN F n
    | none => ptN F n
theorem ptN_ge (F : Nat → Option Nat) : ∀ n, -1 ≤ ptN F n
  | 0 => Int.le_refl _
  | n + 1 => by
    have := ptN_ge F n
    unfold ptN
    cases F n with
    | none => exact this
    | some x => simp only; split <;> omega
theorem ptN_le {F : Nat → Option Nat} : ∀ {n o x : Nat}, o < n → F o = some x → (x : Int) ≤ ptN F n
  | n + 1, o, x, h, hf => by
    unfold ptN
    by_cases e : o = n
    · subst e
      rw [hf]
      simp only
      split <;> omega
    · have := ptN_le (F := F) (n := n) (by omega) hf
      cases F n with
      | none => exact this
      | some y => simp only; split <;> omega
theorem ptN_bd {F : Nat → Option Nat} {B : Nat} : ∀ {n : Nat}, (∀ o x, o < n → F o = some x → x < B) → ptN F n < B
  | 0, _ => by unfold ptN; omega
  | n + 1, h => by
    have ih := ptN_bd (F := F) (n := n) fun o x ho hf => h o x (by omega) hf
    unfold ptN
    cases hf : F n with
    | none => exact ih
    | some y =>
      have := h n y (by omega) hf
      simp only
      split <;> omega
/-- the least sentence in which two places differ -/
def fd (p : Nat) (fx : List (List Nat × List Nat)) (bs : List (List Row)) (z o : Nat) : Option Nat := (List.range (max (lineQ p fx bs z).1.length (lineQ p fx bs o).1.length + 12)).find? fun x => lang p fx bs z x != lang p fx bs o x
section
variable {p : Nat} {fx : List (List Nat × List Nat)} {bs : List (List Row)} (w : WRaw p fx bs)
include w
theorem lang_per {z o : Nat} (hz : There fx bs z) (ho : There fx bs o) (q : Nat) (hq : p ∣ q) {x : Nat} (hx : max (lineQ p fx bs z).1.length (lineQ p fx bs o).1.length ≤ x) : (lang p fx bs z (x + q) != lang p fx bs o (x + q)) = (lang p fx bs z x != lang p fx bs o x) := by
  obtain ⟨_, _, _, k1, _⟩ := lineQ_fix w hz
  obtain ⟨_, _, _, k2, _⟩ := lineQ_fix w ho
  rw [← lineQ_has w hz, ← lineQ_has w hz, ← lineQ_has w ho, ← lineQ_has w ho, has_per q (by rw [k1]; exact hq) (by omega), has_per q (by rw [k2]; exact hq) (by omega)]
theorem p_dvd : p ∣ 12 := by
  have h1 := w.p1
  have h4 := w.p4
  have : p = 1 ∨ p = 2 ∨ p = 3 ∨ p = 4 := by omega
  rcases this with rfl | rfl | rfl | rfl <;> decide
theorem fd_none {z o : Nat} (hz : There fx bs z) (ho : There fx bs o) (h : fd p fx bs z o = none) (x : Nat) : lang p fx bs z x = lang p fx bs o x := by
  have h1 := w.p1
  have e := find_per (f := fun x => lang p fx bs z x != lang p fx bs o x) (s1 := max (lineQ p fx bs z).1.length (lineQ p fx bs o).1.length) (q1 := 12) (s2 := max (lineQ p fx bs z).1.length (lineQ p fx bs o).1.length) (q2 := 12) (n1 := max (lineQ p fx bs z).1.length (lineQ p fx bs o).1.length + 12) (n2 := max (lineQ p fx bs z).1.length (lineQ p fx bs o).1.length + 12 + x + 1) (fun x hx => lang_per w hz ho 12 (p_dvd w) hx) (fun x hx => lang_per w hz ho 12 (p_dvd w) hx) (by omega) (by omega) (by omega) (by omega)
  unfold fd at h
  rw [h] at e
  have := List.find?_eq_none.mp e.symm x (List.mem_range.mpr (by omega))
  simpa using this
theorem fd_some {z o y : Nat} (h : fd p fx bs z o = some y) : lang p fx bs z y ≠ lang p fx bs o y ∧ y < max (lineQ p fx bs z).1.length (lineQ p fx bs o).1.length + 12 := by
  unfold fd at h
  have h1 := List.find?_some h
  have h2 := List.mem_range.mp (List.mem_of_find?_eq_some h)
  exact ⟨by simpa using h1, h2⟩
theorem lang_wq {z : Nat} (hz : There fx bs z) (hl : z ≤ 5000) : WQ (langPS p (built fx) bs z) := by
  have hz' : There (built fx) bs z := fun e => by simpa using hz e
  obtain ⟨b1, b2, o, dv, ln⟩ := langPS_fix (raw_fam w) hz'
  have h1 := w.p1
  have h4 := w.p4
  have := Nat.le_of_dvd h1 dv
  exact ⟨b1, b2, (fun e => by rw [e] at o; cases o), by omega, by omega⟩
/-- the program's look at two places -/
theorem fd_prog {z o : Nat} (hz : There fx bs z) (ho : There fx bs o) (lz : z ≤ 5000) (lo : o ≤ 5000) {b b' : Bool} : ∃ q : List Nat × List Nat, gOwn 35 Φ_PeriodicSet___xor__ ⟨PSo (langPS p (built fx) bs z).1 (langPS p (built fx) bs z).2, .pl, b⟩ ⟨PSo (langPS p (built fx) bs o).1 (langPS p (built fx) bs o).2, .pl, b'⟩ = .ok ⟨PSo q.1 q.2, .pl, true⟩ ∧
    callR Φ_PeriodicSet_least [⟨PSo q.1 q.2, .pl, true⟩] [] = .ok ⟨optD (fd p fx bs z o), .pl, true⟩ := by
  have wz := lang_wq w hz lz
  have wo := lang_wq w ho lo
  have hz' : There (built fx) bs z := fun e => by simpa using hz e
  have ho' : There (built fx) bs o := fun e => by simpa using ho e
  have wc := (comb_wp wz wo (t := txor) (fun c hc => by simp [txor] at hc; omega))
  have hlen := comb_len wz wo (t := txor)
  obtain ⟨_, hL, _, _⟩ := lcm_facts wz wo
  have h1 := lpre_len_le (comb txor (langPS p (built fx) bs z) (langPS p (built fx) bs o)).1 (lcyc (comb txor (langPS p (built fx) bs z) (langPS p (built fx) bs o)).2)
  have h2 := lcyc_len_le wc.ne
  have lq := wz.l1
  have lr := wo.l1
  have hl1 : (least (comb txor (langPS p (built fx) bs z) (langPS p (built fx) bs o))).1.length ≤ 40000 := by show (lpre _ _).length ≤ _; omega
  have hl2 : (least (comb txor (langPS p (built fx) bs z) (langPS p (built fx) bs o))).2.length ≤ 40000 := by show (lcyc _).length ≤ _; omega
  have wl : WP (least (comb txor (langPS p (built fx) bs z) (langPS p (built fx) bs o))).1 (least (comb txor (langPS p (built fx) bs z) (langPS p (built fx) bs o))).2 := wc.least
  have hx := xor_has wz wo
  have cx := callR_new (as := [⟨PSo (langPS p (built fx) bs z).1 (langPS p (built fx) bs z).2, .pl, b⟩, ⟨PSo (langPS p (built fx) bs o).1 (langPS p (built fx) bs o).2, .pl, b'⟩]) (dds := []) (xor_ok wz wo)
  generalize least (comb txor (langPS p (built fx) bs z) (langPS p (built fx) bs o)) = Q at hl1 hl2 wl hx cx
  refine ⟨Q, ?_, callR_new ((least_ok wl.bp wl.bc wl.ne hl1 hl2).trans ?_)⟩
  · unfold gOwn
    simp only [and_self, if_true]
    rw [cx]
    rfl
  · congr 3
    have ef : has Q.1 Q.2 = fun x => lang p fx bs z x != lang p fx bs o x := funext fun x => by
      rw [hx x, langPS_has (raw_fam w) hz', langPS_has (raw_fam w) ho', lang_built w, lang_built w]
    have hp := fun x (hxx : Q.1.length ≤ x) => has_per (p := Q.1) (c := Q.2) _ (Nat.dvd_refl _) hxx
    unfold fd
    have hpos := List.length_pos_iff.mpr wl.ne
    rw [ef] at hp ⊢
    exact find_per (fun x hxx => hp x hxx) (fun x hxx => lang_per w hz ho 12 (p_dvd w) hxx) hpos (by omega) (Nat.le_refl _) (Nat.le_refl _)
end
end Pf
set_option maxHeartbeats 1000000
namespace Pf
open PySem L2 Ev
theorem There.le {fx : List (List Nat × List Nat)} {bs : List (List Row)} {z o : Nat} (h : There fx bs z) (ho : o ≤ z) : There fx bs o := fun e => by have := h e; omega
section
variable {p : Nat} {fx : List (List Nat × List Nat)} {bs : List (List Row)} (w : WRaw p fx bs)
include w
theorem lang_call {z : Nat} (hz : There fx bs z) (hl : z ≤ 70000) {b b' : Bool} : ∃ k, callR Φ_Family_language [⟨famD p (built fx) bs, .pl, b⟩, ⟨.int z, .pl, b'⟩] [] = .ok ⟨PSo (langPS p (built fx) bs z).1 (langPS p (built fx) bs z).2, .pl, k⟩ :=
  language_call (raw_fam w) (fun e => by simpa using hz e) hl
theorem parting_ok {z : Nat} (hz : There fx bs z) (hl : z ≤ 5000) : Φ_parting [famD p (built fx) bs, .int z] = .ok (.int (ptN (fd p fx bs z) z), true) := by
  obtain ⟨k, cl⟩ := lang_call w hz (by omega) (b := false) (b' := true)
  let E : SV → SV → SV → SV → En := fun a b c d => [.sh (famD p (built fx) bs) false, .sh (.int z) true, a, b, c, d]
  let L : SV := .sh (PSo (langPS p (built fx) bs z).1 (langPS p (built fx) bs z).2) k
  obtain ⟨ρ, e, x4, x5, rfl⟩ := loop_pred (h := hName 4) (b := true) (g := b_parting_1) (fun n ρ => ∃ x4 x5, ρ = E L (.sh (.int (ptN (fd p fx bs z) n)) true) x4 x5) (rng 0 z) 0 (E L (.sh (.int (-1)) true) .un .un) ⟨.un, .un, rfl⟩ (fun i d ρ hd ⟨x4, x5, hρ⟩ => by
    subst hρ
    obtain ⟨hi, rfl⟩ := rng_get hd
    rw [Int.zero_add, Nat.zero_add]
    obtain ⟨k', cl'⟩ := lang_call w (hz.le (o := i) (by omega)) (by omega) (b := false) (b' := true)
    obtain ⟨Q, c1, c2⟩ := fd_prog w hz (hz.le (o := i) (by omega)) hl (by omega) (b := k) (b' := k')
    let F : SV := .sh (optD (fd p fx bs z i)) true
    refine ⟨E L (.sh (.int (ptN (fd p fx bs z) i)) true) (.sh (.int i) true) x5, E L (.sh (.int (ptN (fd p fx bs z) (i + 1))) true) (.sh (.int i) true) F, by simp [E], .inl ?_, _, _, rfl⟩
    unfold b_parting_1
    refine seq_nx (ρ1 := E L (.sh (.int (ptN (fd p fx bs z) i)) true) (.sh (.int i) true) F) ?_ ?_
    · simp [E, L, F, cl', c1, c2]
    · rw [if_ap]
      show _ = Out.next (E L (.sh (.int (match fd p fx bs z i with
        | some x => if (x : Int) > ptN (fd p fx bs z) i then x else ptN (fd p fx bs z) i
        | none => ptN (fd p fx bs z) i)) true) (.sh (.int i) true) F)
      generalize ptN (fd p fx bs z) i = y
      cases hf : fd p fx bs z i with
      | none => simp [E, L, F, hf, optD, cNotN, nonB]
      | some x => simp [E, L, F, hf, optD, cNotN, nonB, gMax_i])
  rw [rng_len, Nat.zero_add] at *
  refine bodyR_ret (g := g_parting) (n := 6) (ds := [famD p (built fx) bs, .int z]) (a := ⟨.int (ptN (fd p fx bs z) z), .pl, true⟩) ?_
  show g_parting (E .un .un .un .un) = _
  unfold g_parting
  refine seq_nx (ρ1 := E L .un .un .un) (by simp [E, L, cl]) (seq_nx (ρ1 := E L (.sh (.int (-1)) true) .un .un) (by simp [E, L, eNeg, cInt]) (seq_nx (ρ1 := E L (.sh (.int (ptN (fd p fx bs z) z)) true) x4 x5) ?_ ?_))
  · have hit : iR1 (eVar 1) (E L (.sh (.int (-1)) true) .un .un) = .ok ⟨rng 0 z, true, false⟩ := by
      rw [iR1_at (n := (z : Int)) (m := .pl) (b := true) (by simp [E]) (by omega), Int.toNat_natCast]
    rw [for_ap, hit]
    exact e
  · simp [E]
theorem fd_lt {z o y : Nat} (hz : There fx bs z) (hl : o < z) (h : fd p fx bs z o = some y) : y < max 6 (z + 1) + 12 := by
  have h1 := (fd_some w h).2
  obtain ⟨_, _, _, _, k1⟩ := lineQ_fix w hz
  obtain ⟨_, _, _, _, k2⟩ := lineQ_fix w (hz.le (o := o) (by omega))
  omega
theorem pt_lt {z : Nat} (hz : There fx bs z) : ptN (fd p fx bs z) z < ((max 6 (z + 1) + 12 : Nat) : Int) := ptN_bd fun o x ho hf => fd_lt w hz ho hf
theorem enough_ok {z : Nat} (hz : There fx bs z) (hl : z ≤ 5000) (m : Nat) (hm : m ≤ 100) : Φ_enough_answers [famD p (built fx) bs, .int z, .int m] = .ok (.int ((ptN (fd p fx bs z) z + 1) * (m + 1) + m), true) := by
  have c1 : callR Φ_parting [⟨famD p (built fx) bs, .pl, false⟩, ⟨.int z, .pl, true⟩] [] = .ok ⟨.int (ptN (fd p fx bs z) z), .pl, true⟩ := callR_new (parting_ok w hz hl)
  have em : gMul ⟨.int (ptN (fd p fx bs z) z + 1), .pl, true⟩ ⟨.int ((m : Int) + 1), .pl, true⟩ = .ok ⟨.int ((ptN (fd p fx bs z) z + 1) * ((m : Int) + 1)), .pl, true⟩ := gMul_i (by omega)
  refine bodyR_ret (g := g_enough_answers) (n := 3) (ds := [famD p (built fx) bs, .int z, .int m]) (a := ⟨.int ((ptN (fd p fx bs z) z + 1) * (m + 1) + m), .pl, true⟩) ?_
  show g_enough_answers [.sh (famD p (built fx) bs) false, .sh (.int z) true, .sh (.int m) true] = _
  unfold g_enough_answers
  simp [c1, em]
theorem in_call {z : Nat} (hz : There fx bs z) (hl : z ≤ 5000) (x : Nat) {b b' : Bool} : callR Φ__law_in [⟨lineD (lineQ p fx bs z), .pl, b⟩, ⟨.int (x : Int), .pl, b'⟩] [] = .ok ⟨.bl (lang p fx bs z x), .pl, true⟩ := by
  obtain ⟨b1, b2, o, k1, k2⟩ := lineQ_fix w hz
  have h4 := w.p4
  rw [← lineQ_has w hz]
  exact callR_new (law_in_ok b1 b2 (fun e => by rw [e] at o; cases o) (by omega) (by omega) x)
omit w in
theorem take_find {α : Type} (p : α → Bool) : ∀ l : List α, (l.filter p).take 1 = (l.find? p).toList
  | [] => rfl
  | a :: l => by
    cases h : p a with
    | true => rw [List.filter_cons_of_pos h, List.find?_cons, h]; rfl
    | false => rw [List.filter_cons_of_neg (by rw [h]; decide), List.find?_cons, h]; exact take_find p l
omit w in
theorem max_len {q r : List Nat × List Nat} (hq : q.1.length ≤ 100000) (hr : r.1.length ≤ 100000) {ρ : En} {f1 f2 : En → R Vl} {m1 m2 : Mk3} {b1 b2 : Bool} (h1 : f1 ρ = .ok ⟨lineD q, m1, b1⟩) (h2 : f2 ρ = .ok ⟨lineD r, m2, b2⟩) : iR1 (e2 gAdd (e2 gMax2 (e1 gLen (e2 gAt f1 (eLit (.int 0)))) (e1 gLen (e2 gAt f2 (eLit (.int 0))))) (eLit (.int 12))) ρ = .ok ⟨rng 0 (max q.1.length r.1.length + 12), true, false⟩ := by
  have a1 : gAt ⟨lineD q, m1, b1⟩ ⟨.int 0, .pl, true⟩ = .ok ⟨.str q.1, .pl, true⟩ := by cases b1 <;> rfl
  have a2 : gAt ⟨lineD r, m2, b2⟩ ⟨.int 0, .pl, true⟩ = .ok ⟨.str r.1, .pl, true⟩ := by cases b2 <;> rfl
  have l1 : gLen ⟨.str q.1, .pl, true⟩ = .ok ⟨.int q.1.length, .pl, true⟩ := gLen_s (by omega)
  have l2 : gLen ⟨.str r.1, .pl, true⟩ = .ok ⟨.int r.1.length, .pl, true⟩ := gLen_s (by omega)
  have e : (if (r.1.length : Int) > q.1.length then (r.1.length : Int) else q.1.length) + 12 = ((max q.1.length r.1.length + 12 : Nat) : Int) := by split <;> omega
  rw [iR1_at (n := ((max q.1.length r.1.length + 12 : Nat) : Int)) (m := .pl) (b := true) (by rw [← e]; simp [h1, h2, a1, a2, l1, l2, gMax_i]) (by omega), Int.toNat_natCast]
theorem lparting_ok {z : Nat} (hz : There fx bs z) (hl : z ≤ 5000) : Φ__law_parting [dataD p fx bs, .int z] = .ok (.int (ptN (fd p fx bs z) z), true) := by
  have cl : callR Φ__law_line [⟨dataD p fx bs, .pl, false⟩, ⟨.int (z : Int), .pl, true⟩] [] = .ok ⟨lineD (lineQ p fx bs z), .pl, true⟩ := callR_new (line_eq w hz (by omega))
  obtain ⟨_, _, _, _, kz⟩ := lineQ_fix w hz
  let E : SV → SV → SV → SV → SV → SV → En := fun a b c d e f => [.sh (dataD p fx bs) false, .sh (.int z) true, a, b, c, d, e, f]
  let L : SV := .sh (lineD (lineQ p fx bs z)) true
  obtain ⟨ρ, e, x4, x5, x6, rfl⟩ := loop_pred (h := hName 4) (b := true) (g := b__law_parting_1) (fun n ρ => ∃ x4 x5 x6, ρ = E L (.sh (.int (ptN (fd p fx bs z) n)) true) x4 x5 x6 .un) (rng 0 z) 0 (E L (.sh (.int (-1)) true) .un .un .un .un) ⟨.un, .un, .un, rfl⟩ (fun i d ρ hd ⟨x4, x5, x6, hρ⟩ => by
    subst hρ
    obtain ⟨hi, rfl⟩ := rng_get hd
    rw [Int.zero_add, Nat.zero_add]
    have hzi := hz.le (o := i) (by omega)
    have cl' : callR Φ__law_line [⟨dataD p fx bs, .pl, false⟩, ⟨.int (i : Int), .pl, true⟩] [] = .ok ⟨lineD (lineQ p fx bs i), .pl, true⟩ := callR_new (line_eq w hzi (by omega))
    obtain ⟨_, _, _, _, ki⟩ := lineQ_fix w hzi
    let Y : SV := .sh (.int (ptN (fd p fx bs z) i)) true
    let M : SV := .sh (lineD (lineQ p fx bs i)) true
    let Fs : List Int := (fd p fx bs z i).toList.map fun (x : Nat) => (x : Int)
    refine ⟨E L Y (.sh (.int i) true) x5 x6 .un, E L (.sh (.int (ptN (fd p fx bs z) (i + 1))) true) (.sh (.int i) true) M (.sh (.lst (Fs.map .int)) true) .un, by simp [E, Y], .inl ?_, _, _, _, rfl⟩
    unfold b__law_parting_1
    refine seq_nx (ρ1 := E L Y (.sh (.int i) true) M x6 .un) (by simp [E, M, cl']) ?_
    refine seq_nx (ρ1 := E L Y (.sh (.int i) true) M (.sh (.lst (Fs.map .int)) true) .un) ?_ ?_
    · let ρ := E L Y (.sh (.int i) true) M x6 .un
      have hit := max_len (q := lineQ p fx bs z) (r := lineQ p fx bs i) (by omega) (by omega) (ρ := ρ) (f1 := eVar 2) (f2 := eVar 5) (m1 := .pl) (m2 := .pl) (b1 := true) (b2 := true) (by simp [ρ, E, L]) (by simp [ρ, E, M])
      have ef := lcF_fm (h := hName 7) (b := true) (t := (t2 cNe (eCall Φ__law_in 2 [] (aCons (eVar 2) (aCons (eVar 7) aNil))) (eCall Φ__law_in 2 [] (aCons (eVar 5) (aCons (eVar 7) aNil))))) (el := eVar 7) (ρ := wipeE ρ [7]) (fun d => match d with
        | .int x => lang p fx bs z x.toNat != lang p fx bs i x.toNat
        | _ => false) (fun d => d) (ds := rng 0 (max (lineQ p fx bs z).1.length (lineQ p fx bs i).1.length + 12)) (fun d hd => by
          obtain ⟨j, hj⟩ := List.mem_iff_getElem?.mp hd
          obtain ⟨hn, rfl⟩ := rng_get hj
          rw [Int.zero_add]
          have i1 := in_call w hz hl j (b := true) (b' := true)
          have i2 := in_call w hzi (by omega) j (b := true) (b' := true)
          refine ⟨E L Y (.sh (.int i) true) M x6 (.sh (.int j) true), by simp [ρ, E, wipeE], ?_, fun _ => ⟨.pl, true, ?_, rfl, rfl⟩⟩
          · simp [E, L, M, i1, i2, cNe_b, bne]
          · simp [E])
      have e := lc_at (p := (_, true)) (own := [7]) hit rfl (by simp; omega) ef
      have e' : (((rng 0 (max (lineQ p fx bs z).1.length (lineQ p fx bs i).1.length + 12)).filter (fun d => match d with
        | .int x => lang p fx bs z x.toNat != lang p fx bs i x.toNat
        | _ => false)).map fun d => d).take 1 = Fs.map .int := by
        rw [List.map_id'']
        · unfold rng
          rw [List.filter_map, ← List.map_take, take_find]
          show ((List.range (max (lineQ p fx bs z).1.length (lineQ p fx bs i).1.length + 12)).find? (fun (x : Nat) => lang p fx bs z ((0 : Int) + (x : Int)).toNat != lang p fx bs i ((0 : Int) + (x : Int)).toNat)).toList.map _ = _
          have : (fun (x : Nat) => lang p fx bs z ((0 : Int) + (x : Int)).toNat != lang p fx bs i ((0 : Int) + (x : Int)).toNat) = fun x => lang p fx bs z x != lang p fx bs i x := funext fun x => by
            rw [show ((0 : Int) + (x : Int)).toNat = x by omega]
          rw [this]
          show (fd p fx bs z i).toList.map _ = _
          simp [Fs, Function.comp_def]
        · exact fun _ => rfl
      rw [asg_ap, sl_ap]
      show ((eLc _ _ _ _ _ ρ).bind _).toOut _ _ = _
      rw [e, bind_ok']
      have ec : ∀ l : List D, cut l none (some 1) = l.take 1 := fun l => by
        cases l with
        | nil => rfl
        | cons a l => exact cut_to (a :: l) (n := 1) (by simp)
      simp only [oNone_ap, bind_ok', oSome_ap, lit_ap, int_ap, ofO_some, gSl_l, ec, e']
      simp [ρ, E]
    · have em : gMaxL ⟨.lst ((ptN (fd p fx bs z) i :: Fs).map .int), .nw, true⟩ = .ok ⟨.int (ptN (fd p fx bs z) (i + 1)), .pl, true⟩ := by
        unfold gMaxL
        show ofO (some _) _ = _
        rw [ofO_some, ints_map, ofO_some, if_neg (by simp), sc_ap]
        show _ = R.ok (⟨.int (match fd p fx bs z i with
          | some x => if (x : Int) > ptN (fd p fx bs z) i then x else ptN (fd p fx bs z) i
          | none => ptN (fd p fx bs z) i), .pl, true⟩ : Vl)
        cases hf : fd p fx bs z i with
        | none =>
          show R.ok (⟨.int (imax (ptN (fd p fx bs z) i :: (fd p fx bs z i).toList.map fun (x : Nat) => (x : Int))), .pl, true⟩ : Vl) = _
          rw [hf]
          simp [imax]
        | some x =>
          show R.ok (⟨.int (imax (ptN (fd p fx bs z) i :: (fd p fx bs z i).toList.map fun (x : Nat) => (x : Int))), .pl, true⟩ : Vl) = _
          rw [hf]
          simp only [imax, Option.toList, List.map_cons, List.map_nil, List.foldl_cons, List.foldl_nil]
          congr 3
          split <;> omega
      have ea : gAdd ⟨.lst [.int (ptN (fd p fx bs z) i)], .nw, true⟩ ⟨.lst (Fs.map .int), .pl, true⟩ = .ok ⟨.lst ((ptN (fd p fx bs z) i :: Fs).map .int), .nw, true⟩ := by
        have hFl : Fs.length ≤ 1 := by
          show ((fd p fx bs z i).toList.map _).length ≤ 1
          cases fd p fx bs z i <;> simp
        rw [gAdd_l (by simp; omega)]
        rfl
      generalize ptN (fd p fx bs z) (i + 1) = y' at em ⊢
      generalize (ptN (fd p fx bs z) i :: Fs).map D.int = W at ea em
      simp [E, Y, ea, em])
  rw [rng_len, Nat.zero_add] at *
  refine bodyR_ret (g := g__law_parting) (n := 8) (ds := [dataD p fx bs, .int z]) (a := ⟨.int (ptN (fd p fx bs z) z), .pl, true⟩) ?_
  show g__law_parting (E .un .un .un .un .un .un) = _
  unfold g__law_parting
  refine seq_nx (ρ1 := E L .un .un .un .un .un) (by simp [E, L, cl]) (seq_nx (ρ1 := E L (.sh (.int (-1)) true) .un .un .un .un) (by simp [E, L, eNeg, cInt]) (seq_nx (ρ1 := E L (.sh (.int (ptN (fd p fx bs z) z)) true) x4 x5 x6 .un) ?_ ?_))
  · have hit : iR1 (eVar 1) (E L (.sh (.int (-1)) true) .un .un .un .un) = .ok ⟨rng 0 z, true, false⟩ := by
      rw [iR1_at (n := (z : Int)) (m := .pl) (b := true) (by simp [E]) (by omega), Int.toNat_natCast]
    rw [for_ap, hit]
    exact e
  · simp [E]
end
end Pf
set_option maxHeartbeats 1000000
namespace Pf
open PySem L2 Ev
theorem find_min {f : Nat → Bool} : ∀ {n y : Nat}, (List.range n).find? f = some y → f y = true ∧ y < n ∧ ∀ x, x < y → f x = false
  | 0, y, h => by simp at h
  | n + 1, y, h => by
    rw [List.range_succ, List.find?_append] at h
    cases h0 : (List.range n).find? f with
    | some u =>
      rw [h0] at h
      cases h
      obtain ⟨h1, h2, h3⟩ := find_min h0
      exact ⟨h1, by omega, h3⟩
    | none =>
      rw [h0] at h
      have h' : List.find? f [n] = some y := h
      rw [List.find?_cons] at h'
      cases hn : f n with
      | false => rw [hn] at h'; simp at h'
      | true =>
        rw [hn] at h'
        cases h'
        refine ⟨hn, by omega, fun x hx => ?_⟩
        have := List.find?_eq_none.mp h0 x (List.mem_range.mpr hx)
        simpa using this
theorem find_is {f : Nat → Bool} {n q : Nat} (h : f q = true) (hq : q < n) (hm : ∀ x, x < q → f x = false) : (List.range n).find? f = some q := by
  cases h0 : (List.range n).find? f with
  | none =>
    have := List.find?_eq_none.mp h0 q (List.mem_range.mpr hq)
    exact absurd h (by simpa using this)
  | some y =>
    obtain ⟨h1, h2, h3⟩ := find_min h0
    by_cases e : y = q
    · rw [e]
    · by_cases hl : y < q
      · rw [hm y hl] at h1; cases h1
      · rw [h3 q (by omega)] at h; cases h
section
variable (tr : Int → Bool)
/-- what is settled: the truth below q -/
def knK (q : Nat) : Kn := (List.range q).map fun s => (s, tr s)
theorem knK_len (q : Nat) : (knK tr q).length = q := by simp [knK]
theorem knK_mem {q : Nat} {a : Nat × Bool} (h : a ∈ knK tr q) : a.1 < q ∧ a.2 = tr a.1 := by
  obtain ⟨s, hs, rfl⟩ := List.mem_map.mp h
  exact ⟨List.mem_range.mp hs, rfl⟩
theorem knK_in {q s : Nat} (h : s < q) : (s, tr s) ∈ knK tr q := List.mem_map.mpr ⟨s, List.mem_range.mpr h, rfl⟩
variable {tr}
theorem told_known {A : Ans} {l q : Nat} (hw : wrong tr A ≤ l) (hq : Mex (kn A (l : Int) 60) q) {s : Nat} (hs : s < q) : told A (l : Int) s = some ((s : Int), tr s) := by
  have h1 := (List.mem_filter.mp (hq.2 s hs)).2
  cases h : told A (l : Int) s with
  | none => rw [h] at h1; cases h1
  | some a =>
    have e1' := told_fst h
    have e2' := told_right tr hw h
    rw [e1'] at e2'
    rw [← e1', show a = (a.1, a.2) from rfl]
    simp only [Option.some.injEq, Prod.mk.injEq, true_and]
    rw [e1', e2']
theorem due_knK {A : Ans} {l q : Nat} (h : Liar tr A l) (hq : Mex (kn A (l : Int) 60) q) (hq60 : q < 60) : due A (l : Int) 60 = up (knK tr q) := by
  have low : ∀ k, k ≤ q → due A (l : Int) k = up (knK tr k) := by
    intro k
    induction k with
    | zero => intro _; rfl
    | succ k ih =>
      intro hk
      rw [due_succ, ih (by omega), told_known h.w hq (s := k) (by omega)]
      simp [knK, up, List.range_succ]
  have hnone : ∀ k, q ≤ k → k < 60 → told A (l : Int) k = none := fun k hk hk60 => by
    by_cases e : k = q
    · subst e
      cases hh : told A (l : Int) k with
      | none => rfl
      | some a => exact absurd (List.mem_filter.mpr ⟨R_mem.mpr (by omega), by rw [hh]; rfl⟩) hq.1
    · refine told_none (by omega) fun ⟨b, hb⟩ => ?_
      have := h.q q hq _ hb
      simp only at this
      omega
  have high : ∀ k, k ≤ 60 - q → due A (l : Int) (q + k) = up (knK tr q) := by
    intro k
    induction k with
    | zero => intro _; exact low q (Nat.le_refl _)
    | succ k ih =>
      intro hk
      rw [← Nat.add_assoc, due_succ, ih (by omega), hnone (q + k) (by omega) (by omega)]
      exact List.append_nil _
  have := high (60 - q) (Nat.le_refl _)
  rwa [show q + (60 - q) = 60 by omega] at this
/-- so few known -/
theorem known_le {A : Ans} {l q : Nat} (h : Liar tr A l) (hq : Mex (kn A (l : Int) 60) q) : q * (l + 1) ≤ A.length := by
  have hs := sum_right tr (n := q + 1) (A := A) (fun a ha => R_mem.mpr (by have := h.q q hq a ha; omega))
  have hr : ∀ s : Nat, s < q → l + 1 ≤ right tr A s := fun s hs => by
    have ht := told_known h.w hq hs
    rw [right_eq]
    unfold told at ht
    cases hb : tr s with
    | true =>
      rw [if_pos rfl]
      split at ht
      · omega
      · split at ht
        · rw [hb] at ht; simp at ht
        · cases ht
    | false =>
      rw [if_neg Bool.false_ne_true]
      split at ht
      · rw [hb] at ht; simp at ht
      · split at ht
        · omega
        · cases ht
  have hsum : ∀ k : Nat, k ≤ q → k * (l + 1) ≤ ((R_ k).map (right tr A)).sum := by
    intro k
    induction k with
    | zero => simp
    | succ k ih =>
      intro hk
      rw [R_succ, List.map_append, List.sum_append]
      have := hr k (by omega)
      have := ih (by omega)
      simp only [List.map_cons, List.map_nil, List.sum_cons, List.sum_nil]
      rw [Nat.succ_mul]
      omega
  have h2 := hsum q (Nat.le_refl _)
  rw [R_succ, List.map_append, List.sum_append] at hs
  omega
theorem settled_liar {d : D} {A : Ans} (hd : AnsD d A) {l q : Nat} (h : Liar tr A l) (hA : A.length < 1000) (hq : Mex (kn A (l : Int) 60) q) (hq60 : q < 60) : Φ_settled [d, .int l] = .ok (.tup ((up (knK tr q)).map pairT), true) := by
  have hR : ∀ a ∈ A, 0 ≤ a.1 ∧ a.1 < ((60 : Nat) : Int) := fun a ha => by have := h.q q hq a ha; omega
  have e := settled_goodG (n := 60) hd hA (fun ks hn _ hm => by
    have h1 := congrArg List.length (sort_R hn (n := 60) fun s hs => by
      obtain ⟨b, hb⟩ := hm s hs
      exact hR (s, b) hb)
    rw [(isort_perm ks).length_eq] at h1
    have h2 := List.length_filter_le (fun s => decide (s ∈ ks)) (R_ 60)
    have h3 : (R_ 60).length = 60 := by simp [R_]
    omega) (by omega) hR (fun s _ => no_clash tr h.w s)
  rwa [due_knK h hq hq60] at e
end
section
variable {p : Nat} {fx : List (List Nat × List Nat)} {bs : List (List Row)} (w : WRaw p fx bs) {z : Nat} (hz : There fx bs z)
abbrev trZ (p : Nat) (fx : List (List Nat × List Nat)) (bs : List (List Row)) (z : Nat) (s : Int) : Bool := lang p fx bs z s.toNat
theorem agr_self (q : Nat) : agr (lang p fx bs z) (knK (trZ p fx bs z) q) = true := List.all_eq_true.mpr fun a ha => by
  obtain ⟨_, h2⟩ := knK_mem (trZ p fx bs z) ha
  rw [h2]
  simp [trZ]
include w hz
/-- the asked place: never greater -/
theorem asked_least (q : Nat) : ∃ y, y ≤ z ∧ (List.range (cnt p fx bs (knK (trZ p fx bs z) q))).find? (fun y => agr (lang p fx bs y) (knK (trZ p fx bs z) q)) = some y ∧ ∀ x, x < q → lang p fx bs y x = lang p fx bs z x := by
  have hs := agr_self (p := p) (fx := fx) (bs := bs) (z := z) q
  generalize hK : knK (trZ p fx bs z) q = K at hs
  have key : ∃ y, y ≤ z ∧ (List.range (cnt p fx bs K)).find? (fun y => agr (lang p fx bs y) K) = some y := by
    cases hf : (List.range (cnt p fx bs K)).find? (fun y => agr (lang p fx bs y) K) with
    | some y =>
      refine ⟨y, ?_, rfl⟩
      obtain ⟨h1, h2, h3⟩ := find_min hf
      by_cases h : y ≤ z
      · exact h
      · have := h3 z (by omega)
        rw [hs] at this
        cases this
    | none =>
      exfalso
      have hz1 : cnt p fx bs K ≤ z := by
        by_cases h : cnt p fx bs K ≤ z
        · exact h
        · have := List.find?_eq_none.mp hf z (List.mem_range.mpr (by omega))
          rw [hs] at this
          exact absurd rfl this
      have hb : 0 < bs.length := by
        refine Nat.pos_of_ne_zero fun e => ?_
        have hb := hz (List.length_eq_zero_iff.mp e)
        unfold cnt at hz1
        omega
      have e := find_far (f := fun y => agr (lang p fx bs y) K) (m := cnt p fx bs K) (n := z + 1) (by omega) fun y hy _ h => agr_far w.p1 hy h hb
      rw [hf] at e
      have := List.find?_eq_none.mp e z (List.mem_range.mpr (by omega))
      rw [hs] at this
      exact absurd rfl this
  obtain ⟨y, h1, h2⟩ := key
  refine ⟨y, h1, h2, fun x hx => ?_⟩
  have ha := (find_min h2).1
  have := List.all_eq_true.mp ha (x, trZ p fx bs z x) (by rw [← hK]; exact knK_in _ hx)
  simpa [trZ] using this
/-- enough is known -/
theorem asked_right {y q : Nat} (hy : y ≤ z) (hq : ptN (fd p fx bs z) z < (q : Int)) (h : ∀ x, x < q → lang p fx bs y x = lang p fx bs z x) (x : Nat) : lang p fx bs y x = lang p fx bs z x := by
  by_cases e : y = z
  · rw [e]
  · cases hf : fd p fx bs z y with
    | none => exact (fd_none w hz (hz.le hy) hf x).symm
    | some u =>
      have h1 := ptN_le (F := fd p fx bs z) (n := z) (o := y) (by omega) hf
      have h2 := h u (by omega)
      exact absurd h2.symm (fd_some w hf).1
theorem place_call {d : D} {A : Ans} (hd : AnsD d A) {l q : Nat} (h : Liar (trZ p fx bs z) A l) (hA : A.length < 1000) (hq : Mex (kn A (l : Int) 60) q) (hq60 : q < 60) : ∃ y, y ≤ z ∧ Φ_asked_place [famD p (built fx) bs, d, .int l] = .ok (.int y, true) ∧ ∀ x, x < q → lang p fx bs y x = lang p fx bs z x := by
  have se := settled_liar hd h hA hq hq60
  have hap := asked_place_ok (raw_fam w) (d := d) (l := (l : Int)) (K := knK (trZ p fx bs z) q) (by obtain ⟨ds, e, _⟩ := hd; rcases e with e | e <;> rw [e] <;> rfl) se (fun a ha => by have := (knK_mem _ ha).1; omega) (by rw [knK_len]; omega)
  have el : ∀ z, lang p (built fx) bs z = lang p fx bs z := fun z => funext fun x => lang_built w z x
  have ec : ∀ K, cnt p (built fx) bs K = cnt p fx bs K := fun K => by simp [cnt]
  rw [ec] at hap
  simp only [el] at hap
  obtain ⟨y, h1, h2, h3⟩ := asked_least w hz q
  exact ⟨y, h1, hap.1 y h2, h3⟩
end
end Pf
set_option maxHeartbeats 1000000
namespace Pf
open PySem L2 Ev
theorem prs_mapA : ∀ A : Ans, Prs (A.map pairT) A
  | [] => trivial
  | _ :: A => ⟨.inl rfl, prs_mapA A⟩
theorem ansA_l (A : Ans) : AnsD (.lst (A.map pairT)) A := ⟨_, .inl rfl, prs_mapA A⟩
theorem ansA_t (A : Ans) : AnsD (.tup (A.map pairT)) A := ⟨_, .inr rfl, prs_mapA A⟩
theorem whole_ok (x : Int) : Φ__law_whole [.int x] = .ok (.bl true, true) := by
  refine bodyR_ret (g := g__law_whole) (n := 1) (ds := [.int x]) (a := ⟨.bl true, .pl, true⟩) ?_
  show g__law_whole [.sh (.int x) true] = _
  unfold g__law_whole
  simp [eIsi, tt_int, tt_bool]
theorem places_ok {p : Nat} {fx : List (List Nat × List Nat)} {bs : List (List Row)} : Φ__law_places [dataD p fx bs] = .ok (if bs = [] then .int fx.length else .non, true) := by
  refine bodyR_ret (g := g__law_places) (n := 1) (ds := [dataD p fx bs]) (a := ⟨if bs = [] then .int fx.length else .non, .pl, true⟩) ?_
  show g__law_places [.sh (dataD p fx bs) false] = _
  unfold g__law_places
  have hf : gAt ⟨dataD p fx bs, .pl, false⟩ ⟨.int 1, .pl, true⟩ = .ok ⟨.lst (fx.map lineD), .pl, false⟩ := rfl
  have hb : gAt ⟨dataD p fx bs, .pl, false⟩ ⟨.int 2, .pl, true⟩ = .ok ⟨.lst (bs.map rowsD), .pl, false⟩ := rfl
  by_cases h : bs = []
  · refine seq_ret ?_
    rw [if_ap]
    subst h
    simp [hf, hb, cEq_i]
  · refine seq_nx (ρ1 := [.sh (dataD p fx bs) false]) (by rw [if_ap]; simp [hb, cEq_i, h]) ?_
    simp [h]
theorem unsettled_ok {A : Ans} (hA : A.length ≤ 1000) {l q : Nat} (hq : Mex (kn A (l : Int) 60) q) (hq60 : q < 60) : Φ__law_least_unsettled [.lst (A.map pairT), .int l] = .ok (.int q, true) := by
  let E : SV → SV → SV → SV → En := fun a b c d => [.sh (.lst (A.map pairT)) false, .sh (.int l) true, a, b, c, d]
  obtain ⟨l1, _⟩ : (∀ z, (List.range 60).find? (fun (x : Nat) => (told A (l : Int) (x : Int)).isNone) = some z → ∃ b, loopF (hName 2) true b__law_least_unsettled_1 (rng 0 60) (E .un .un .un .un) = .ret b ∧ b = ⟨.int z, .pl, true⟩) ∧ True := by
    refine ⟨fun z hz => ?_, trivial⟩
    obtain ⟨f1, f2, f3⟩ := find_min hz
    have step : ∀ (x : Nat) (x2 x3 x5 : SV), ∃ y3 y5, b__law_least_unsettled_1 (E (.sh (.int x) true) x3 .un x5) = (if (told A (l : Int) (x : Int)).isNone then .ret ⟨.int x, .pl, true⟩ else .next (E (.sh (.int x) true) y3 .un y5)) := fun x x2 x3 x5 => by
      refine ⟨.sh (.int (yes A x)) true, .sh (.int (no A x)) true, ?_⟩
      unfold b__law_least_unsettled_1
      have c1 := count_yes (ρ := E (.sh (.int x) true) x3 .un x5) (it := iAll (eVar 0)) (ds := A.map pairT) (A := A) (f := false) (bo := false) (j := 4) (k := 2) (x := x) (by simp [E, isBo]) (prs_mapA A) hA rfl (by omega) (by simp [E]) rfl
      have c2 := count_no (ρ := E (.sh (.int x) true) (.sh (.int (yes A x)) true) .un x5) (it := iAll (eVar 0)) (ds := A.map pairT) (A := A) (f := false) (bo := false) (j := 4) (k := 2) (x := x) (by simp [E, isBo]) (prs_mapA A) hA rfl (by omega) (by simp [E]) rfl
      have s1 : sAsg 3 (e1 gLen (eLc (iAll (eVar 0)) (hName 4) (tAnd' (t2 cEq (e2 gAt (eVar 4) (eLit (.int 0))) (eVar 2)) (tVal (e2 gAt (eVar 4) (eLit (.int 1))))) (eLit (.int 1)) [4])) (E (.sh (.int x) true) x3 .un x5) = .next (E (.sh (.int x) true) (.sh (.int (yes A x)) true) .un x5) := by
        rw [asg_ap, c1]
        simp [E]
      have s2 : sAsg 5 (e1 gLen (eLc (iAll (eVar 0)) (hName 4) (tAnd' (t2 cEq (e2 gAt (eVar 4) (eLit (.int 0))) (eVar 2)) (tNot' (tVal (e2 gAt (eVar 4) (eLit (.int 1)))))) (eLit (.int 1)) [4])) (E (.sh (.int x) true) (.sh (.int (yes A x)) true) .un x5) = .next (E (.sh (.int x) true) (.sh (.int (yes A x)) true) .un (.sh (.int (no A x)) true)) := by
        rw [asg_ap, c2]
        simp [E]
      rw [seq_nx s1 (seq_nx s2 rfl), if_ap]
      unfold told
      by_cases h1 : (yes A x : Int) ≤ l <;> by_cases h2 : (no A x : Int) ≤ l
      · rw [if_neg (show ¬ (l : Int) < (yes A x : Int) by omega), if_neg (show ¬ (l : Int) < (no A x : Int) by omega)]
        simp [E, h1, h2]
      · rw [if_neg (show ¬ (l : Int) < (yes A x : Int) by omega), if_pos (show (l : Int) < (no A x : Int) by omega)]
        simp [E, h1, h2]
      · rw [if_pos (show (l : Int) < (yes A x : Int) by omega)]
        simp [E, h1]
      · rw [if_pos (show (l : Int) < (yes A x : Int) by omega)]
        simp [E, h1]
    -- the loop
    have go : ∀ (n k : Nat) (x2 x3 x5 : SV), k + n = 60 → k ≤ z → loopF (hName 2) true b__law_least_unsettled_1 ((List.range' k n).map fun (i : Nat) => .int (0 + (i : Int))) (E x2 x3 .un x5) = .ret ⟨.int z, .pl, true⟩ := by
      intro n
      induction n with
      | zero => intro k x2 x3 x5 h1 h2; omega
      | succ n ih =>
        intro k x2 x3 x5 h1 h2
        rw [List.range'_succ, List.map_cons, loopF, Int.zero_add]
        have eh : hName 2 (.int (k : Int)) true (E x2 x3 .un x5) = some (E (.sh (.int k) true) x3 .un x5) := by simp [E]
        rw [eh]
        obtain ⟨y3, y5, e⟩ := step k x2 x3 x5
        show (match b__law_least_unsettled_1 (E (.sh (.int k) true) x3 .un x5) with
          | .next ρ2 => loopF (hName 2) true b__law_least_unsettled_1 ((List.range' (k + 1) n).map fun (i : Nat) => .int (0 + (i : Int))) ρ2
          | .cont ρ2 => loopF (hName 2) true b__law_least_unsettled_1 ((List.range' (k + 1) n).map fun (i : Nat) => .int (0 + (i : Int))) ρ2
          | .brk ρ2 => .next ρ2
          | o => o) = _
        rw [e]
        by_cases hk : k = z
        · subst hk
          rw [if_pos f1]
        · rw [if_neg (by rw [f3 k (by omega)]; decide)]
          exact ih (k + 1) _ _ _ (by omega) (by omega)
    refine ⟨_, ?_, rfl⟩
    have := go 60 0 .un .un .un (by omega) (by omega)
    rw [← List.range_eq_range'] at this
    exact this
  have hf : (List.range 60).find? (fun (x : Nat) => (told A (l : Int) (x : Int)).isNone) = some q := find_is (by
    have := hq.1
    unfold kn at this
    cases h : told A (l : Int) q with
    | none => rfl
    | some a => exact absurd (List.mem_filter.mpr ⟨R_mem.mpr (by omega), by rw [h]; rfl⟩) this) hq60 fun x hx => by
      have := (List.mem_filter.mp (hq.2 x hx)).2
      cases h : told A (l : Int) x with
      | none => rw [h] at this; cases this
      | some a => rfl
  obtain ⟨b, e, rfl⟩ := l1 q hf
  refine bodyR_ret (g := g__law_least_unsettled) (n := 6) (ds := [.lst (A.map pairT), .int l]) (a := ⟨.int q, .pl, true⟩) ?_
  show g__law_least_unsettled (E .un .un .un .un) = _
  unfold g__law_least_unsettled
  refine seq_ret ?_
  have hit : iR1 (eLit (.int 60)) (E .un .un .un .un) = .ok ⟨rng 0 60, true, false⟩ := iR1_at (n := 60) (m := .pl) (b := true) rfl (by omega)
  rw [for_ap, hit]
  exact e
section
variable {p : Nat} {fx : List (List Nat × List Nat)} {bs : List (List Row)} (w : WRaw p fx bs)
include w
theorem part_of_ok {z o : Nat} (hz : There fx bs z) (ho : There fx bs o) (lz : z ≤ 5000) (lo : o ≤ 5000) (e : ∀ x, lang p fx bs z x = lang p fx bs o x) : Φ__law_part_of [lineD (lineQ p fx bs z), lineD (lineQ p fx bs o)] = .ok (.bl true, true) := by
  obtain ⟨_, _, _, _, kz⟩ := lineQ_fix w hz
  obtain ⟨_, _, _, _, ko⟩ := lineQ_fix w ho
  let E : SV → En := fun a => [.sh (lineD (lineQ p fx bs z)) false, .sh (lineD (lineQ p fx bs o)) false, a]
  obtain ⟨x, ex⟩ := loop_keep (h := hName 2) (b := true) (g := b__law_part_of_1) E (rng 0 (max (lineQ p fx bs z).1.length (lineQ p fx bs o).1.length + 12)) .un fun d hd x => by
    obtain ⟨k, hk⟩ := List.mem_iff_getElem?.mp hd
    obtain ⟨hkn, rfl⟩ := rng_get hk
    rw [Int.zero_add]
    have i1 := in_call w hz lz k (b := false) (b' := true)
    have i2 := in_call w ho lo k (b := false) (b' := true)
    rw [← e k] at i2
    refine ⟨E (.sh (.int k) true), .sh (.int k) true, by simp [E], ?_⟩
    unfold b__law_part_of_1
    rw [if_ap]
    cases hb : lang p fx bs z k <;> simp [E, i1, i2, hb]
  refine bodyR_ret (g := g__law_part_of) (n := 3) (ds := [lineD (lineQ p fx bs z), lineD (lineQ p fx bs o)]) (a := ⟨.bl true, .pl, true⟩) ?_
  show g__law_part_of (E .un) = _
  unfold g__law_part_of
  refine seq_nx (ρ1 := E x) ?_ (by simp [E])
  have hit := max_len (q := lineQ p fx bs z) (r := lineQ p fx bs o) (by omega) (by omega) (ρ := E .un) (f1 := eVar 0) (f2 := eVar 1) (m1 := .pl) (m2 := .pl) (b1 := false) (b2 := false) (by simp [E]) (by simp [E])
  rw [for_ap, hit]
  exact ex
theorem told_as {z y : Nat} (hz : There fx bs z) (hy : There fx bs y) (lz : z ≤ 5000) (ly : y ≤ 5000) (e : ∀ x, lang p fx bs y x = lang p fx bs z x) : Φ__law_told_set [PSo (langPS p (built fx) bs y).1 (langPS p (built fx) bs y).2, lineD (lineQ p fx bs z)] = .ok (.bl true, true) := by
  have wf := raw_fam w
  have hy' : There (built fx) bs y := fun e => by simpa using hy e
  obtain ⟨b1, b2, o, dv, ln⟩ := langPS_fix wf hy'
  obtain ⟨k1, k2, ko, kl, kn⟩ := lineQ_fix w hz
  have h1 := w.p1
  have h4 := w.p4
  have hle := Nat.le_of_dvd h1 dv
  exact told_set_ok b1 b2 (fun e => by rw [e] at o; cases o) (by omega) (by omega) k1 k2 (fun e => by rw [e] at ko; cases ko) (by omega) (by omega) fun x => by
    rw [langPS_has wf hy', lang_built w, lineQ_has w hz, e x]
end
end Pf
set_option maxHeartbeats 1000000
namespace Pf
open PySem L2 Ev
abbrev tS (ns : List Int) (p : Nat) (fx : List (List Nat × List Nat)) (bs : List (List Row)) (C : List Int) (z m : Nat) (la : Int) (en : Nat) (gr : SV) (F : List Int) (A : Ans) (lied : Int) (x13 x14 x15 x16 x17 : SV) : En :=
  [.sh (.lsk (ns.map .int)) false, .sh (dataD p fx bs) true, .sh (famD p (built fx) bs) false, .sh (.lst (C.map .int)) true, .sh (.int z) true, .sh (.int m) true, .sh (lineD (lineQ p fx bs z)) true, .sh (.int la) true, .sh (.int en) true, gr, .sh (.lst (F.map .int)) true, .ow (.lst (A.map pairT)) true, .sh (.int lied) true, x13, x14, x15, x16, x17]
section
variable {ns : List Int} {p : Nat} {fx : List (List Nat × List Nat)} {bs : List (List Row)} {C F : List Int} {z m : Nat} {gr : SV} (w : WRaw p fx bs) (hz : There fx bs z) (hz12 : z ≤ 12) (hm : m ≤ 3) {en : Nat} (hen : (en : Int) = (ptN (fd p fx bs z) z + 1) * (m + 1) + m)
include w hz hz12 hm hen
theorem en_le : en ≤ 25 * (m + 1) + m ∧ ∃ M : Nat, (M : Int) = ptN (fd p fx bs z) z + 1 ∧ M * (m + 1) + m = en := by
  have h1 := pt_lt w hz
  have h2 := ptN_ge (fd p fx bs z) z
  obtain ⟨M, hM⟩ : ∃ M : Nat, (M : Int) = ptN (fd p fx bs z) z + 1 := ⟨(ptN (fd p fx bs z) z + 1).toNat, by omega⟩
  rw [← hM] at hen
  have e : ((M * (m + 1) + m : Nat) : Int) = (M : Int) * (m + 1) + m := by simp
  have h3 : M * (m + 1) ≤ 25 * (m + 1) := Nat.mul_le_mul_right _ (by omega)
  exact ⟨by omega, M, hM, by omega⟩
theorem turn76 {A : Ans} {i : Nat} (hi : i < en + 4) (hA : A.length = i) (h : Liar (trZ p fx bs z) A m) {lied : Int} (hw : (wrong (trZ p fx bs z) A : Int) = lied) (x14 x15 x16 x17 : SV) :
    ∃ (A' : Ans) (lied' : Int) (y14 y15 y16 y17 : SV), b_law_1 (tS ns p fx bs C z m (ptN (fd p fx bs z) z) en gr F A lied (.sh (.int i) true) x14 x15 x16 x17) = .next (tS ns p fx bs C z m (ptN (fd p fx bs z) z) en gr F A' lied' (.sh (.int i) true) y14 y15 y16 y17) ∧ A'.length = i + 1 ∧ Liar (trZ p fx bs z) A' m ∧ (wrong (trZ p fx bs z) A' : Int) = lied' := by
  obtain ⟨hle, M, hM, hMe⟩ := en_le w hz hz12 hm hen
  have hAl : A.length < 1000 := by omega
  obtain ⟨q, hq, _⟩ := mex_ex (L := kn A (m : Int) 60) (n := 60) fun s hs => kn_lt hs
  have hqm := known_le h hq
  have hq60 : q < 60 := by
    refine Nat.lt_of_not_le fun hh => ?_
    have : 60 * (m + 1) ≤ q * (m + 1) := Nat.mul_le_mul_right _ hh
    omega
  obtain ⟨y, hy, hpl, heq⟩ := place_call w hz (ansA_t A) h hAl hq hq60
  obtain ⟨y', hy', hpl', heq'⟩ := place_call w hz (ansA_l A) h hAl hq hq60
  have cp : callR Φ_asked_place [⟨famD p (built fx) bs, .pl, false⟩, ⟨.tup (A.map pairT), .pl, true⟩, ⟨.int (m : Int), .pl, true⟩] [] = .ok ⟨.int (y : Int), .pl, true⟩ := callR_new hpl
  have cw : callR Φ__law_whole [⟨.int (y : Int), .pl, true⟩] [] = .ok ⟨.bl true, .pl, true⟩ := callR_new (whole_ok _)
  let T := fun (x14 x15 x16 x17 : SV) (A : Ans) (lied : Int) => tS ns p fx bs C z m (ptN (fd p fx bs z) z) en gr F A lied (.sh (.int i) true) x14 x15 x16 x17
  -- the look at the asked place
  obtain ⟨y14, y15, p1⟩ : ∃ y14 y15, (sIf (tOr' (t2 cGe (eVar 13) (eVar 8)) (t2 cEq (e2 gModI (eVar 13) (eLit (.int 3))) (eLit (.int 0)))) (sSeq (sAsg 14 (eCallK Φ_asked_place 2 1 (aCons (eVar 2) (aCons (e1 gTuple (eVar 11)) aNil)) (aCons (eVar 5) aNil)))
    (sSeq (sIf (tOr' (tNot' (tVal (eCall Φ__law_whole 1 [] (aCons (eVar 14) aNil)))) (tOr' (t2 cLt (eVar 14) (eLit (.int 0))) (t2 cGt (eVar 14) (eVar 4)))) (sRet (eLit (.bl false))) sNext)
    (sIf (t2 cGe (eVar 13) (eVar 8)) (sSeq (sAsg 15 (eCall Φ__law_line 2 [] (aCons (eVar 1) (aCons (eVar 14) aNil))))
    (sSeq (sIf (tOr' (tNot' (tVal (eCall Φ__law_part_of 2 [] (aCons (eVar 15) (aCons (eVar 6) aNil))))) (tNot' (tVal (eCall Φ__law_part_of 2 [] (aCons (eVar 6) (aCons (eVar 15) aNil)))))) (sRet (eLit (.bl false))) sNext)
    (sIf (tNot' (tVal (eCall Φ__law_told_set 2 [] (aCons (eCallK Φ_asked 2 1 (aCons (eVar 2) (aCons (e1 gList (eVar 11)) aNil)) (aCons (eVar 5) aNil)) (aCons (eVar 6) aNil))))) (sRet (eLit (.bl false))) sNext))) sNext))) sNext) (T x14 x15 x16 x17 A lied) = .next (T y14 y15 x16 x17 A lied) := by
    rw [show ∀ (c : En → R Bool) (g1 g2 : En → Out) (ρ : En), sIf c g1 g2 ρ = (c ρ).toOut ρ fun b => if b then g1 ρ else g2 ρ from fun _ _ _ _ => rfl]
    have em : gModI ⟨.int (i : Int), .pl, true⟩ ⟨.int 3, .pl, true⟩ = .ok ⟨.int ((i % 3 : Nat) : Int), .pl, true⟩ := by
      rw [gMod_i (by omega), Int.natCast_emod]
      rfl
    obtain ⟨c, hc⟩ : ∃ c, (tOr' (t2 cGe (eVar 13) (eVar 8)) (t2 cEq (e2 gModI (eVar 13) (eLit (.int 3))) (eLit (.int 0)))) (T x14 x15 x16 x17 A lied) = .ok c := by
      generalize ((i % 3 : Nat) : Int) = u at em
      by_cases h1 : (en : Int) ≤ i
      · exact ⟨true, by simp [T, h1]⟩
      · exact ⟨decide (u = 0), by simp [T, h1, em, cEq_i]⟩
    rw [hc, out_ok]
    cases c with
    | false => exact ⟨x14, x15, rfl⟩
    | true =>
      let Y : SV := .sh (.int (y : Int)) true
      have s1 : sAsg 14 (eCallK Φ_asked_place 2 1 (aCons (eVar 2) (aCons (e1 gTuple (eVar 11)) aNil)) (aCons (eVar 5) aNil)) (T x14 x15 x16 x17 A lied) = .next (T Y x15 x16 x17 A lied) := by simp [T, Y, cp]
      have n0 : ¬ ((y : Int) < 0) := by omega
      have n1 : ¬ ((z : Int) < (y : Int)) := by omega
      have s2 : sIf (tOr' (tNot' (tVal (eCall Φ__law_whole 1 [] (aCons (eVar 14) aNil)))) (tOr' (t2 cLt (eVar 14) (eLit (.int 0))) (t2 cGt (eVar 14) (eVar 4)))) (sRet (eLit (.bl false))) sNext (T Y x15 x16 x17 A lied) = .next (T Y x15 x16 x17 A lied) := by
        rw [if_ap]
        simp [T, Y, cw, n0, n1]
      by_cases h1 : (en : Int) ≤ i
      · -- enough is known
        have hMq := h.known_ge (trZ p fx bs z) (m := M) (by omega) hq hq60
        have hty : There fx bs y := hz.le hy
        have hty' : There fx bs y' := hz.le hy'
        have same := asked_right w hz hy (q := q) (by omega) heq
        have same' := asked_right w hz hy' (q := q) (by omega) heq'
        let Mi : SV := .sh (lineD (lineQ p fx bs y)) true
        have cl : callR Φ__law_line [⟨dataD p fx bs, .pl, true⟩, ⟨.int (y : Int), .pl, true⟩] [] = .ok ⟨lineD (lineQ p fx bs y), .pl, true⟩ := callR_new (line_eq w hty (by omega))
        have c1 : callR Φ__law_part_of [⟨lineD (lineQ p fx bs y), .pl, true⟩, ⟨lineD (lineQ p fx bs z), .pl, true⟩] [] = .ok ⟨.bl true, .pl, true⟩ := callR_new (part_of_ok w hty hz (by omega) (by omega) same)
        have c2 : callR Φ__law_part_of [⟨lineD (lineQ p fx bs z), .pl, true⟩, ⟨lineD (lineQ p fx bs y), .pl, true⟩] [] = .ok ⟨.bl true, .pl, true⟩ := callR_new (part_of_ok w hz hty (by omega) (by omega) fun x => (same x).symm)
        obtain ⟨k, ea⟩ := asked_yes (raw_fam w) (d := .lst (A.map pairT)) (l := (m : Int)) rfl (fun e => by simpa using hty' e) (by omega) hpl'
        obtain ⟨k2, ca⟩ : ∃ k, callR Φ_asked [⟨famD p (built fx) bs, .pl, false⟩, ⟨.lst (A.map pairT), .nw, true⟩, ⟨.int (m : Int), .pl, true⟩] [] = .ok ⟨PSo (langPS p (built fx) bs y').1 (langPS p (built fx) bs y').2, .pl, k⟩ := ⟨_, callR_ok (ds := [famD p (built fx) bs, .lst (A.map pairT), .int (m : Int)]) rfl ea⟩
        have ct : callR Φ__law_told_set [⟨PSo (langPS p (built fx) bs y').1 (langPS p (built fx) bs y').2, .pl, k2⟩, ⟨lineD (lineQ p fx bs z), .pl, true⟩] [] = .ok ⟨.bl true, .pl, true⟩ := callR_new (told_as w hz hty' (by omega) (by omega) same')
        refine ⟨Y, Mi, ?_⟩
        rw [if_pos rfl]
        refine seq_nx s1 (seq_nx s2 ?_)
        rw [if_ap]
        have ec : (t2 cGe (eVar 13) (eVar 8)) (T Y x15 x16 x17 A lied) = .ok true := by simp [T, h1]
        rw [ec, out_ok, if_pos rfl]
        refine seq_nx (ρ1 := T Y Mi x16 x17 A lied) (by simp [T, Y, Mi, cl]) (seq_nx (ρ1 := T Y Mi x16 x17 A lied) ?_ ?_)
        · rw [if_ap]
          simp [T, Mi, c1, c2]
        · rw [if_ap]
          simp [T, ca, ct]
      · refine ⟨Y, x15, ?_⟩
        rw [if_pos rfl]
        refine seq_nx s1 (seq_nx s2 ?_)
        rw [if_ap]
        simp [T, h1]
  -- the question, the answer, a lie or not
  have cq : callR Φ__law_least_unsettled [⟨.lst (A.map pairT), .bo, true⟩, ⟨.int (m : Int), .pl, true⟩] [] = .ok ⟨.int q, .pl, true⟩ := callR_new (unsettled_ok (by omega) hq hq60)
  have ci := in_call w hz (by omega) q (b := true) (b' := true)
  obtain ⟨b, lied', e8, hwb⟩ : ∃ (b : Bool) (lied' : Int), (sIf (tAnd' (t2 cInA (eVar 13) (eVar 10)) (t2 cLt (eVar 12) (eVar 5))) (sSeq (sAsg 17 (vNot (eVar 17))) (sAsg 12 (e2 gAdd (eVar 12) (eLit (.int 1))))) sNext) (T y14 y15 (.sh (.int q) true) (.sh (.bl (lang p fx bs z q)) true) A lied) = .next (T y14 y15 (.sh (.int q) true) (.sh (.bl b) true) A lied') ∧ (wrong (trZ p fx bs z) (A ++ [((q : Int), b)]) : Int) = lied' ∧ wrong (trZ p fx bs z) (A ++ [((q : Int), b)]) ≤ m := by
    have et : trZ p fx bs z (q : Int) = lang p fx bs z q := by simp [trZ]
    by_cases hin : (i : Int) ∈ F ∧ lied < m
    · refine ⟨!lang p fx bs z q, lied + 1, ?_, ?_, ?_⟩
      · rw [if_ap]
        simp [T, in_ints, hin.1, hin.2]
      · rw [wrong_snoc, et, if_neg (by cases lang p fx bs z q <;> decide)]
        omega
      · rw [wrong_snoc, et, if_neg (by cases lang p fx bs z q <;> decide)]
        have := hin.2
        omega
    · refine ⟨lang p fx bs z q, lied, ?_, ?_, ?_⟩
      · rw [if_ap]
        by_cases h1 : (i : Int) ∈ F
        · have h2 : ¬ lied < (m : Int) := fun z => hin ⟨h1, z⟩
          simp [T, in_ints, h1, h2]
        · simp [T, in_ints, h1]
      · rw [wrong_snoc, et, if_pos rfl]
        omega
      · rw [wrong_snoc, et, if_pos rfl]
        exact h.w
  refine ⟨A ++ [((q : Int), b)], lied', y14, y15, .sh (.int q) true, .sh (.bl b) true, ?_, by simp [hA], h.step (trZ p fx bs z) hq hq60 b hwb.2, hwb.1⟩
  unfold b_law_1
  refine seq_nx p1 (seq_nx (ρ1 := T y14 y15 (.sh (.int q) true) x17 A lied) (by simp [T, cq]) (seq_nx (ρ1 := T y14 y15 (.sh (.int q) true) (.sh (.bl (lang p fx bs z q)) true) A lied) (by simp [T, ci]) (seq_nx e8 ?_)))
  rw [app_at (x := .ow (.lst (A.map pairT)) true) rfl, appV_ow]
  have hl6 : A.length < 1000000 := by omega
  simp [T, hl6, pairT]
end
end Pf
set_option maxHeartbeats 1000000
namespace Pf
open PySem L2 Ev
theorem plain (ns : List Int) (hl : ns.length ≤ 63) (hz : ∀ z ∈ ns, Builtin.Int.intBits z ≤ 1048576) : ∃ f, Φ_law [.lsk (ns.map .int)] = .ok (.bl true, f) := by
  obtain ⟨d, p, fixed, bands, ed, wd⟩ := any_ok ns 0 (by omega) (by omega)
  obtain ⟨fx, bs, rfl, w⟩ := data_typed wd
  obtain ⟨c4, hc4⟩ := cell_call ns 4 (by omega) (by omega) false true
  obtain ⟨c5, hc5⟩ := cell_call ns 5 (by omega) (by omega) false true
  obtain ⟨C, eC, dC⟩ := digits_call [13, 4, 48] (by decide) (by decide) c4 .nw true true
  obtain ⟨F0, eF, dF⟩ := digits_call [30, 30, 30] (by decide) (by decide) c5 .nw true true
  have eC' : callR Φ__law_digits [⟨.int c4, .pl, true⟩, ⟨.lst [.int 13, .int 4, .int 48], .nw, true⟩] [] = .ok ⟨.lst (C.map .int), .pl, true⟩ := eC
  have eF' : callR Φ__law_digits [⟨.int c5, .pl, true⟩, ⟨.lst [.int 30, .int 30, .int 30], .nw, true⟩] [] = .ok ⟨.lst (F0.map .int), .pl, true⟩ := eF
  obtain ⟨k0, hk0, k00, k01⟩ := dg_get dC 0 rfl
  obtain ⟨k1, hk1, k10, k11⟩ := dg_get dC 1 rfl
  obtain ⟨k2, hk2, k20, k21⟩ := dg_get dC 2 rfl
  have a0 := fun {m : Mk3} => gAt_ints (m := m) (m' := .pl) (b := true) (b' := true) (i := 0) (by decide) hk0
  have a1 := fun {m : Mk3} => gAt_ints (m := m) (m' := .pl) (b := true) (b' := true) (i := 1) (by decide) hk1
  have a2 := fun {m : Mk3} => gAt_ints (m := m) (m' := .pl) (b := true) (b' := true) (i := 2) (by decide) hk2
  obtain ⟨z0, rfl⟩ : ∃ z : Nat, (z : Int) = k0 := ⟨k0.toNat, by omega⟩
  obtain ⟨m, rfl⟩ : ∃ m : Nat, (m : Int) = k1 := ⟨k1.toNat, by omega⟩
  obtain ⟨u2, rfl⟩ : ∃ u : Nat, (u : Int) = k2 := ⟨k2.toNat, by omega⟩
  have cA : callR Φ__law_any_family [⟨.lsk (ns.map .int), .pl, false⟩, ⟨.int 0, .pl, true⟩] [] = .ok ⟨dataD p fx bs, .pl, true⟩ := callR_new ed
  have cB : callR Φ__law_build [⟨dataD p fx bs, .pl, true⟩] [] = .ok ⟨famD p (built fx) bs, .pl, false⟩ := callR_ok (ds := [dataD p fx bs]) rfl (build_ok w)
  have cP : callR Φ__law_places [⟨dataD p fx bs, .pl, true⟩] [] = .ok ⟨if bs = [] then .int fx.length else .non, .pl, true⟩ := callR_new places_ok
  let S : SV := .sh (.lsk (ns.map .int)) false
  let Dt : SV := .sh (dataD p fx bs) true
  let Fm : SV := .sh (famD p (built fx) bs) false
  let Cs : SV := .sh (.lst (C.map .int)) true
  have hf : gAt ⟨dataD p fx bs, .pl, true⟩ ⟨.int 1, .pl, true⟩ = .ok ⟨.lst (fx.map lineD), .pl, true⟩ := rfl
  -- the seat
  obtain ⟨z, tz, z12, sz⟩ : ∃ z : Nat, There fx bs z ∧ z ≤ 12 ∧ (sIf (t2 cNotN (eCall Φ__law_places 1 [] (aCons (eVar 1) aNil)) (eLit .non)) (sAsg 4 (e2 gModI (e1 gInt (eVar 4)) (e1 gLen (e2 gAt (eVar 1) (eLit (.int 1)))))) sNext) [S, Dt, Fm, Cs, .sh (.int z0) true, .un, .un, .un, .un, .un, .un, .un, .un, .un, .un, .un, .un, .un] = .next [S, Dt, Fm, Cs, .sh (.int z) true, .un, .un, .un, .un, .un, .un, .un, .un, .un, .un, .un, .un, .un] := by
    by_cases hb : bs = []
    · have hpos := List.length_pos_iff.mpr (w.ne hb)
      refine ⟨z0 % fx.length, fun _ => Nat.mod_lt _ hpos, by have := Nat.mod_le z0 fx.length; omega, ?_⟩
      rw [if_pos hb] at cP
      have em : gModI ⟨.int (z0 : Int), .pl, true⟩ ⟨.int fx.length, .pl, true⟩ = .ok ⟨.int ((z0 % fx.length : Nat) : Int), .pl, true⟩ := by
        rw [gMod_i (by omega), Int.natCast_emod]
      generalize ((z0 % fx.length : Nat) : Int) = y at em ⊢
      rw [if_ap]
      simp [S, Dt, cP, cNotN, nonB, hf, em]
    · refine ⟨z0, fun h => absurd h hb, by omega, ?_⟩
      rw [if_neg hb] at cP
      rw [if_ap]
      simp [S, Dt, cP, cNotN, nonB]
  have cL : callR Φ__law_line [⟨dataD p fx bs, .pl, true⟩, ⟨.int (z : Int), .pl, true⟩] [] = .ok ⟨lineD (lineQ p fx bs z), .pl, true⟩ := callR_new (line_eq w tz (by omega))
  have cLp : callR Φ__law_parting [⟨dataD p fx bs, .pl, true⟩, ⟨.int (z : Int), .pl, true⟩] [] = .ok ⟨.int (ptN (fd p fx bs z) z), .pl, true⟩ := callR_new (lparting_ok w tz (by omega))
  have cPp : callR Φ_parting [⟨famD p (built fx) bs, .pl, false⟩, ⟨.int (z : Int), .pl, true⟩] [] = .ok ⟨.int (ptN (fd p fx bs z) z), .pl, true⟩ := callR_new (parting_ok w tz (by omega))
  have cE : callR Φ_enough_answers [⟨famD p (built fx) bs, .pl, false⟩, ⟨.int (z : Int), .pl, true⟩, ⟨.int (m : Int), .pl, true⟩] [] = .ok ⟨.int ((ptN (fd p fx bs z) z + 1) * (m + 1) + m), .pl, true⟩ := callR_new (enough_ok w tz (by omega) m (by omega))
  have cE0 : callR Φ_enough_answers [⟨famD p (built fx) bs, .pl, false⟩, ⟨.int (z : Int), .pl, true⟩] [.int 0] = .ok ⟨.int (ptN (fd p fx bs z) z + 1), .pl, true⟩ := by
    have := enough_ok w tz (by omega) 0 (by omega)
    rw [show (ptN (fd p fx bs z) z + 1) * (((0 : Nat) : Int) + 1) + ((0 : Nat) : Int) = ptN (fd p fx bs z) z + 1 by simp] at this
    exact callR_new (as := [⟨famD p (built fx) bs, .pl, false⟩, ⟨.int (z : Int), .pl, true⟩]) (dds := [.int 0]) this
  have cW : ∀ x : Int, callR Φ__law_whole [⟨.int x, .pl, true⟩] [] = .ok ⟨.bl true, .pl, true⟩ := fun x => callR_new (whole_ok x)
  have hm3 : m ≤ 3 := by omega
  -- enough
  obtain ⟨en, hen⟩ : ∃ en : Nat, (en : Int) = (ptN (fd p fx bs z) z + 1) * (m + 1) + m := by
    have h2 := ptN_ge (fd p fx bs z) z
    obtain ⟨M, hM⟩ : ∃ M : Nat, (M : Int) = ptN (fd p fx bs z) z + 1 := ⟨(ptN (fd p fx bs z) z + 1).toNat, by omega⟩
    exact ⟨M * (m + 1) + m, by rw [← hM]; simp⟩
  have hle := (en_le w tz z12 hm3 hen).1
  have em : gMul ⟨.int (ptN (fd p fx bs z) z + 1), .pl, true⟩ ⟨.int ((m : Int) + 1), .pl, true⟩ = .ok ⟨.int ((ptN (fd p fx bs z) z + 1) * ((m : Int) + 1)), .pl, true⟩ := gMul_i (by omega)
  have cG : bs ≠ [] → callR Φ_parting [⟨famD p (built fx) bs, .pl, false⟩, ⟨.int ((13 : Int) + u2), .pl, true⟩] [] = .ok ⟨.int (ptN (fd p fx bs (13 + u2)) (13 + u2)), .pl, true⟩ ∧ callR Φ__law_parting [⟨dataD p fx bs, .pl, true⟩, ⟨.int ((13 : Int) + u2), .pl, true⟩] [] = .ok ⟨.int (ptN (fd p fx bs (13 + u2)) (13 + u2)), .pl, true⟩ := fun hb => by
    have t : There fx bs (13 + u2) := fun e => absurd e hb
    rw [show (13 : Int) + u2 = ((13 + u2 : Nat) : Int) by omega]
    exact ⟨callR_new (parting_ok w t (by omega)), callR_new (lparting_ok w t (by omega))⟩
  generalize hF : cut F0 none (some (m : Int)) = F
  -- the turns
  obtain ⟨ρ, eT, A, lied, turn, x14, x15, x16, x17, rfl, _⟩ := loop_pred (b := true) (h := hName 13) (g := b_law_1) (fun k ρ => ∃ (A : Ans) (lied : Int) (x13 x14 x15 x16 x17 : SV), ρ = tS ns p fx bs C z m (ptN (fd p fx bs z) z) en (.sh (.int ((13 : Int) + u2)) true) F A lied x13 x14 x15 x16 x17 ∧ A.length = k ∧ Liar (trZ p fx bs z) A m ∧ (wrong (trZ p fx bs z) A : Int) = lied) (rng 0 (en + 4)) 0
    (tS ns p fx bs C z m (ptN (fd p fx bs z) z) en (.sh (.int ((13 : Int) + u2)) true) F [] 0 .un .un .un .un .un) ⟨[], 0, .un, .un, .un, .un, .un, rfl, rfl, liar_nil _ m, rfl⟩ (fun i y ρ hy ⟨A, lied, x13, x14, x15, x16, x17, hρ, h1, h2, h3⟩ => by
      subst hρ
      obtain ⟨hi, rfl⟩ := rng_get hy
      rw [Nat.zero_add] at h1 ⊢
      rw [Int.zero_add]
      obtain ⟨A', lied', y14, y15, y16, y17, e, e1', e2', e3'⟩ := turn76 (ns := ns) (C := C) (F := F) (gr := .sh (.int ((13 : Int) + u2)) true) w tz z12 hm3 hen hi h1 h2 h3 x14 x15 x16 x17
      exact ⟨tS ns p fx bs C z m (ptN (fd p fx bs z) z) en (.sh (.int ((13 : Int) + u2)) true) F A lied (.sh (.int i) true) x14 x15 x16 x17, _, by simp, .inl e, A', lied', _, y14, y15, y16, y17, rfl, e1', e2', e3'⟩)
  refine ⟨true, bodyR_ret (g := g_law) (n := 18) (ds := [.lsk (ns.map .int)]) (a := ⟨.bl true, .pl, true⟩) ?_⟩
  show g_law [S, .un, .un, .un, .un, .un, .un, .un, .un, .un, .un, .un, .un, .un, .un, .un, .un, .un] = _
  unfold g_law
  let Z : SV := .sh (.int z) true
  let Mo : SV := .sh (.int m) true
  let Ln : SV := .sh (lineD (lineQ p fx bs z)) true
  let La : SV := .sh (.int (ptN (fd p fx bs z) z)) true
  let En_ : SV := .sh (.int (en : Int)) true
  let Gr : SV := .sh (.int ((13 : Int) + u2)) true
  refine seq_nx (ρ1 := [S, Dt, .un, .un, .un, .un, .un, .un, .un, .un, .un, .un, .un, .un, .un, .un, .un, .un]) (by simp [S, Dt, cA]) ?_
  refine seq_nx (ρ1 := [S, Dt, Fm, .un, .un, .un, .un, .un, .un, .un, .un, .un, .un, .un, .un, .un, .un, .un]) (by simp [S, Dt, Fm, cB]) ?_
  refine seq_nx (ρ1 := [S, Dt, Fm, Cs, .un, .un, .un, .un, .un, .un, .un, .un, .un, .un, .un, .un, .un, .un]) (by simp [S, Dt, Fm, Cs, hc4, eC']) ?_
  refine seq_nx (ρ1 := [S, Dt, Fm, Cs, .sh (.int z0) true, .un, .un, .un, .un, .un, .un, .un, .un, .un, .un, .un, .un, .un]) (by simp [S, Dt, Fm, Cs, a0]) ?_
  refine seq_nx sz ?_
  refine seq_nx (ρ1 := [S, Dt, Fm, Cs, Z, Mo, .un, .un, .un, .un, .un, .un, .un, .un, .un, .un, .un, .un]) (by simp [S, Dt, Fm, Cs, Z, Mo, a1]) ?_
  refine seq_nx (ρ1 := [S, Dt, Fm, Cs, Z, Mo, Ln, .un, .un, .un, .un, .un, .un, .un, .un, .un, .un, .un]) (by simp [S, Dt, Fm, Cs, Z, Mo, Ln, cL]) ?_
  refine seq_nx (ρ1 := [S, Dt, Fm, Cs, Z, Mo, Ln, La, .un, .un, .un, .un, .un, .un, .un, .un, .un, .un]) (by simp [S, Dt, Fm, Cs, Z, Mo, Ln, La, cLp]) ?_
  rw [← hen] at cE
  refine seq_nx (ρ1 := [S, Dt, Fm, Cs, Z, Mo, Ln, La, En_, .un, .un, .un, .un, .un, .un, .un, .un, .un]) (by simp [S, Dt, Fm, Cs, Z, Mo, Ln, La, En_, em, hen]) ?_
  refine seq_nx (ρ1 := [S, Dt, Fm, Cs, Z, Mo, Ln, La, En_, .un, .un, .un, .un, .un, .un, .un, .un, .un]) ?_ ?_
  · rw [if_ap]
    simp [S, Dt, Fm, Z, Mo, La, En_, cPp, cE, cW, cNe_i]
  refine seq_nx (ρ1 := [S, Dt, Fm, Cs, Z, Mo, Ln, La, En_, .un, .un, .un, .un, .un, .un, .un, .un, .un]) ?_ ?_
  · rw [if_ap]
    simp [S, Dt, Fm, Z, Mo, La, En_, cE0, cNe_i]
  refine seq_nx (ρ1 := [S, Dt, Fm, Cs, Z, Mo, Ln, La, En_, Gr, .un, .un, .un, .un, .un, .un, .un, .un]) (by simp [S, Dt, Fm, Cs, Gr, a2]) ?_
  refine seq_nx (ρ1 := [S, Dt, Fm, Cs, Z, Mo, Ln, La, En_, Gr, .un, .un, .un, .un, .un, .un, .un, .un]) ?_ ?_
  · rw [if_ap]
    by_cases hb : bs = []
    · rw [if_pos hb] at cP
      simp [S, Dt, cP, cIsN, nonB]
    · obtain ⟨g1, g2⟩ := cG hb
      rw [if_neg hb] at cP
      simp [S, Dt, Fm, Gr, cP, cIsN, nonB, g1, g2, cNe_i]
  refine seq_nx (ρ1 := [S, Dt, Fm, Cs, Z, Mo, Ln, La, En_, Gr, .sh (.lst (F.map .int)) true, .un, .un, .un, .un, .un, .un, .un]) (by simp [S, Dt, Fm, Cs, Z, Mo, hc5, eF', cut_map, hF]) ?_
  refine seq_nx (ρ1 := [S, Dt, Fm, Cs, Z, Mo, Ln, La, En_, Gr, .sh (.lst (F.map .int)) true, .ow (.lst []) true, .un, .un, .un, .un, .un, .un]) (by simp) ?_
  refine seq_nx (ρ1 := [S, Dt, Fm, Cs, Z, Mo, Ln, La, En_, Gr, .sh (.lst (F.map .int)) true, .ow (.lst []) true, .sh (.int 0) true, .un, .un, .un, .un, .un]) (by simp) ?_
  refine seq_nx (ρ1 := tS ns p fx bs C z m (ptN (fd p fx bs z) z) en (.sh (.int ((13 : Int) + u2)) true) F A lied turn x14 x15 x16 x17) ?_ (by simp)
  have hit : iR1 (e2 gAdd (eVar 8) (eLit (.int 4))) [S, Dt, Fm, Cs, Z, Mo, Ln, La, En_, Gr, .sh (.lst (F.map .int)) true, .ow (.lst []) true, .sh (.int 0) true, .un, .un, .un, .un, .un] = .ok ⟨rng 0 (en + 4), true, false⟩ := by
    rw [iR1_at (n := (en : Int) + 4) (m := .pl) (b := true) (by simp [En_]) (by omega)]
    rfl
  rw [for_ap, hit]
  exact eT
end Pf
set_option maxHeartbeats 4000000
namespace Pf
open PySem PySem.Spec PyProof.Rows L2 Ev
theorem clok_PeriodicSet {K : PySem.W.Frag} (c : SaysX fb fn K) : ClOk K (tb K) 35 := clokOf (He.cls_ok (show (He.Fa.cls "PeriodicSet").ok K = true from (c.fact 29 (f := fun K => (He.Fa.cls "PeriodicSet").ok K)))) (show List.Nodup (clsF 35) from by decide +kernel) (by intro f hf; have hf : f ∈ (["cycle", "prefix"] : List Str) := hf; simp only [List.mem_cons, List.mem_nil_iff, or_false, List.not_mem_nil] at hf; rcases hf with rfl | rfl <;> first | exact He.noat_ok (show (He.Fa.noat "PeriodicSet" "cycle").ok K = true from (c.fact 91 (f := fun K => (He.Fa.noat "PeriodicSet" "cycle").ok K))) | exact He.noat_ok (show (He.Fa.noat "PeriodicSet" "prefix").ok K = true from (c.fact 92 (f := fun K => (He.Fa.noat "PeriodicSet" "prefix").ok K)))) (show (clsF 35).length < 1000 from by decide +kernel)
theorem clok_Band {K : PySem.W.Frag} (c : SaysX fb fn K) : ClOk K (tb K) 13 := clokOf (He.cls_ok (show (He.Fa.cls "Band").ok K = true from (c.fact 53 (f := fun K => (He.Fa.cls "Band").ok K)))) (show List.Nodup (clsF 13) from by decide +kernel) (by intro f hf; have hf : f ∈ (["period", "rows"] : List Str) := hf; simp only [List.mem_cons, List.mem_nil_iff, or_false, List.not_mem_nil] at hf; rcases hf with rfl | rfl <;> first | exact He.noat_ok (show (He.Fa.noat "Band" "period").ok K = true from (c.fact 93 (f := fun K => (He.Fa.noat "Band" "period").ok K))) | exact He.noat_ok (show (He.Fa.noat "Band" "rows").ok K = true from (c.fact 94 (f := fun K => (He.Fa.noat "Band" "rows").ok K)))) (show (clsF 13).length < 1000 from by decide +kernel)
theorem clok_Family {K : PySem.W.Frag} (c : SaysX fb fn K) : ClOk K (tb K) 18 := clokOf (He.cls_ok (show (He.Fa.cls "Family").ok K = true from (c.fact 55 (f := fun K => (He.Fa.cls "Family").ok K)))) (show List.Nodup (clsF 18) from by decide +kernel) (by intro f hf; have hf : f ∈ (["period", "fixed", "bands"] : List Str) := hf; simp only [List.mem_cons, List.mem_nil_iff, or_false, List.not_mem_nil] at hf; rcases hf with rfl | rfl | rfl <;> first | exact He.noat_ok (show (He.Fa.noat "Family" "period").ok K = true from (c.fact 95 (f := fun K => (He.Fa.noat "Family" "period").ok K))) | exact He.noat_ok (show (He.Fa.noat "Family" "fixed").ok K = true from (c.fact 96 (f := fun K => (He.Fa.noat "Family" "fixed").ok K))) | exact He.noat_ok (show (He.Fa.noat "Family" "bands").ok K = true from (c.fact 97 (f := fun K => (He.Fa.noat "Family" "bands").ok K)))) (show (clsF 18).length < 1000 from by decide +kernel)
theorem tabok_cycle {K : PySem.W.Frag} (c : SaysX fb fn K) : ∀ p ∈ tab_cycle, ClOk K (tb K) p.1 ∧ ((tb K).cf p.1)[p.2]? = some "cycle" := by intro p hp; simp only [tab_cycle, List.mem_cons, List.mem_nil_iff, or_false, List.not_mem_nil] at hp; rcases hp with rfl <;> first | exact ⟨clok_PeriodicSet c, rfl⟩
theorem tabok_prefix {K : PySem.W.Frag} (c : SaysX fb fn K) : ∀ p ∈ tab_prefix, ClOk K (tb K) p.1 ∧ ((tb K).cf p.1)[p.2]? = some "prefix" := by intro p hp; simp only [tab_prefix, List.mem_cons, List.mem_nil_iff, or_false, List.not_mem_nil] at hp; rcases hp with rfl <;> first | exact ⟨clok_PeriodicSet c, rfl⟩
theorem tabok_period {K : PySem.W.Frag} (c : SaysX fb fn K) : ∀ p ∈ tab_period, ClOk K (tb K) p.1 ∧ ((tb K).cf p.1)[p.2]? = some "period" := by intro p hp; simp only [tab_period, List.mem_cons, List.mem_nil_iff, or_false, List.not_mem_nil] at hp; rcases hp with rfl | rfl <;> first | exact ⟨clok_Band c, rfl⟩ | exact ⟨clok_Family c, rfl⟩
theorem tabok_fixed {K : PySem.W.Frag} (c : SaysX fb fn K) : ∀ p ∈ tab_fixed, ClOk K (tb K) p.1 ∧ ((tb K).cf p.1)[p.2]? = some "fixed" := by intro p hp; simp only [tab_fixed, List.mem_cons, List.mem_nil_iff, or_false, List.not_mem_nil] at hp; rcases hp with rfl <;> first | exact ⟨clok_Family c, rfl⟩
theorem tabok_bands {K : PySem.W.Frag} (c : SaysX fb fn K) : ∀ p ∈ tab_bands, ClOk K (tb K) p.1 ∧ ((tb K).cf p.1)[p.2]? = some "bands" := by intro p hp; simp only [tab_bands, List.mem_cons, List.mem_nil_iff, or_false, List.not_mem_nil] at hp; rcases hp with rfl <;> first | exact ⟨clok_Family c, rfl⟩
theorem tabok_rows {K : PySem.W.Frag} (c : SaysX fb fn K) : ∀ p ∈ tab_rows, ClOk K (tb K) p.1 ∧ ((tb K).cf p.1)[p.2]? = some "rows" := by intro p hp; simp only [tab_rows, List.mem_cons, List.mem_nil_iff, or_false, List.not_mem_nil] at hp; rcases hp with rfl <;> first | exact ⟨clok_Band c, rfl⟩
theorem tt_list_ok {K : PySem.W.Frag} (c : SaysX fb fn K) : TabOk K (tb K) [(.type "list")] tt_list := by
  refine ⟨fun k l b e => ?_, fun d b e => ?_⟩
  · unfold tt_list at e
    dsimp only at e
    repeat' (split at e)
    all_goals (first | cases e; done | (subst_vars; first | exact owcB_ok (He.cls_ok (show (He.Fa.cls "PeriodicSet").ok K = true from (c.fact 29 (f := fun K => (He.Fa.cls "PeriodicSet").ok K)))) (show clsB (He.ga K "PeriodicSet") K = true from (c.fact 101 (f := fun K => clsB (He.ga K "PeriodicSet") K))) | exact owcB_ok (He.cls_ok (show (He.Fa.cls "Band").ok K = true from (c.fact 53 (f := fun K => (He.Fa.cls "Band").ok K)))) (show clsB (He.ga K "Band") K = true from (c.fact 102 (f := fun K => clsB (He.ga K "Band") K))) | exact owcB_ok (He.cls_ok (show (He.Fa.cls "Family").ok K = true from (c.fact 55 (f := fun K => (He.Fa.cls "Family").ok K)))) (show clsB (He.ga K "Family") K = true from (c.fact 103 (f := fun K => clsB (He.ga K "Family") K)))))
  · cases d <;> unfold tt_list at e <;> dsimp only at e
    case obj k l => (repeat' (split at e)) <;> (first | cases e; done | (subst_vars; cases e; first | exact kitB1_ok (show kitB1 (He.ga K "PeriodicSet") [(.type "list")] false K = true from (c.fact 98 (f := fun K => kitB1 (He.ga K "PeriodicSet") [(.type "list")] false K))) | exact kitB1_ok (show kitB1 (He.ga K "Band") [(.type "list")] false K = true from (c.fact 99 (f := fun K => kitB1 (He.ga K "Band") [(.type "list")] false K))) | exact kitB1_ok (show kitB1 (He.ga K "Family") [(.type "list")] false K = true from (c.fact 100 (f := fun K => kitB1 (He.ga K "Family") [(.type "list")] false K)))))
    case non => cases e; exact kitB0_ok (show kitB0 "NoneType" [(.type "list")] false K = true from (c.fact 104 (f := fun K => kitB0 "NoneType" [(.type "list")] false K)))
    case bl => cases e; exact kitB0_ok (show kitB0 "bool" [(.type "list")] false K = true from (c.fact 105 (f := fun K => kitB0 "bool" [(.type "list")] false K)))
    case int => cases e; exact kitB0_ok (show kitB0 "int" [(.type "list")] false K = true from (c.fact 106 (f := fun K => kitB0 "int" [(.type "list")] false K)))
    case str => cases e; exact kitB0_ok (show kitB0 "str" [(.type "list")] false K = true from (c.fact 107 (f := fun K => kitB0 "str" [(.type "list")] false K)))
    case lst => cases e; exact kitB0_ok (show kitB0 "list" [(.type "list")] true K = true from (c.fact 108 (f := fun K => kitB0 "list" [(.type "list")] true K)))
    case lsk => cases e; exact kitB0_ok (show kitB0 "list" [(.type "list")] true K = true from (c.fact 108 (f := fun K => kitB0 "list" [(.type "list")] true K)))
    case tup => cases e; exact kitB0_ok (show kitB0 "tuple" [(.type "list")] false K = true from (c.fact 109 (f := fun K => kitB0 "tuple" [(.type "list")] false K)))
    case dct => cases e; exact kitB0_ok (show kitB0 "dict" [(.type "list")] false K = true from (c.fact 110 (f := fun K => kitB0 "dict" [(.type "list")] false K)))
theorem tt_str_ok {K : PySem.W.Frag} (c : SaysX fb fn K) : TabOk K (tb K) [(.type "str")] tt_str := by
  refine ⟨fun k l b e => ?_, fun d b e => ?_⟩
  · unfold tt_str at e
    dsimp only at e
    repeat' (split at e)
    all_goals (first | cases e; done | (subst_vars; first | exact owcB_ok (He.cls_ok (show (He.Fa.cls "PeriodicSet").ok K = true from (c.fact 29 (f := fun K => (He.Fa.cls "PeriodicSet").ok K)))) (show clsB (He.ga K "PeriodicSet") K = true from (c.fact 101 (f := fun K => clsB (He.ga K "PeriodicSet") K))) | exact owcB_ok (He.cls_ok (show (He.Fa.cls "Band").ok K = true from (c.fact 53 (f := fun K => (He.Fa.cls "Band").ok K)))) (show clsB (He.ga K "Band") K = true from (c.fact 102 (f := fun K => clsB (He.ga K "Band") K))) | exact owcB_ok (He.cls_ok (show (He.Fa.cls "Family").ok K = true from (c.fact 55 (f := fun K => (He.Fa.cls "Family").ok K)))) (show clsB (He.ga K "Family") K = true from (c.fact 103 (f := fun K => clsB (He.ga K "Family") K)))))
  · cases d <;> unfold tt_str at e <;> dsimp only at e
    case obj k l => (repeat' (split at e)) <;> (first | cases e; done | (subst_vars; cases e; first | exact kitB1_ok (show kitB1 (He.ga K "PeriodicSet") [(.type "str")] false K = true from (c.fact 111 (f := fun K => kitB1 (He.ga K "PeriodicSet") [(.type "str")] false K))) | exact kitB1_ok (show kitB1 (He.ga K "Band") [(.type "str")] false K = true from (c.fact 112 (f := fun K => kitB1 (He.ga K "Band") [(.type "str")] false K))) | exact kitB1_ok (show kitB1 (He.ga K "Family") [(.type "str")] false K = true from (c.fact 113 (f := fun K => kitB1 (He.ga K "Family") [(.type "str")] false K)))))
    case non => cases e; exact kitB0_ok (show kitB0 "NoneType" [(.type "str")] false K = true from (c.fact 114 (f := fun K => kitB0 "NoneType" [(.type "str")] false K)))
    case bl => cases e; exact kitB0_ok (show kitB0 "bool" [(.type "str")] false K = true from (c.fact 115 (f := fun K => kitB0 "bool" [(.type "str")] false K)))
    case int => cases e; exact kitB0_ok (show kitB0 "int" [(.type "str")] false K = true from (c.fact 116 (f := fun K => kitB0 "int" [(.type "str")] false K)))
    case str => cases e; exact kitB0_ok (show kitB0 "str" [(.type "str")] true K = true from (c.fact 117 (f := fun K => kitB0 "str" [(.type "str")] true K)))
    case lst => cases e; exact kitB0_ok (show kitB0 "list" [(.type "str")] false K = true from (c.fact 118 (f := fun K => kitB0 "list" [(.type "str")] false K)))
    case lsk => cases e; exact kitB0_ok (show kitB0 "list" [(.type "str")] false K = true from (c.fact 118 (f := fun K => kitB0 "list" [(.type "str")] false K)))
    case tup => cases e; exact kitB0_ok (show kitB0 "tuple" [(.type "str")] false K = true from (c.fact 119 (f := fun K => kitB0 "tuple" [(.type "str")] false K)))
    case dct => cases e; exact kitB0_ok (show kitB0 "dict" [(.type "str")] false K = true from (c.fact 120 (f := fun K => kitB0 "dict" [(.type "str")] false K)))
theorem tt_PeriodicSet_ok {K : PySem.W.Frag} (c : SaysX fb fn K) : TabOk K (tb K) [(.ref (He.ga K "PeriodicSet"))] tt_PeriodicSet := by
  refine ⟨fun k l b e => ?_, fun d b e => ?_⟩
  · unfold tt_PeriodicSet at e
    dsimp only at e
    repeat' (split at e)
    all_goals (first | cases e; done | (subst_vars; first | exact owcB_ok (He.cls_ok (show (He.Fa.cls "PeriodicSet").ok K = true from (c.fact 29 (f := fun K => (He.Fa.cls "PeriodicSet").ok K)))) (show clsB (He.ga K "PeriodicSet") K = true from (c.fact 101 (f := fun K => clsB (He.ga K "PeriodicSet") K))) | exact owcB_ok (He.cls_ok (show (He.Fa.cls "Band").ok K = true from (c.fact 53 (f := fun K => (He.Fa.cls "Band").ok K)))) (show clsB (He.ga K "Band") K = true from (c.fact 102 (f := fun K => clsB (He.ga K "Band") K))) | exact owcB_ok (He.cls_ok (show (He.Fa.cls "Family").ok K = true from (c.fact 55 (f := fun K => (He.Fa.cls "Family").ok K)))) (show clsB (He.ga K "Family") K = true from (c.fact 103 (f := fun K => clsB (He.ga K "Family") K)))))
  · cases d <;> unfold tt_PeriodicSet at e <;> dsimp only at e
    case obj k l => (repeat' (split at e)) <;> (first | cases e; done | (subst_vars; cases e; first | exact kitB1_ok (show kitB1 (He.ga K "PeriodicSet") [(.ref (He.ga K "PeriodicSet"))] true K = true from (c.fact 121 (f := fun K => kitB1 (He.ga K "PeriodicSet") [(.ref (He.ga K "PeriodicSet"))] true K))) | exact kitB1_ok (show kitB1 (He.ga K "Band") [(.ref (He.ga K "PeriodicSet"))] false K = true from (c.fact 122 (f := fun K => kitB1 (He.ga K "Band") [(.ref (He.ga K "PeriodicSet"))] false K))) | exact kitB1_ok (show kitB1 (He.ga K "Family") [(.ref (He.ga K "PeriodicSet"))] false K = true from (c.fact 123 (f := fun K => kitB1 (He.ga K "Family") [(.ref (He.ga K "PeriodicSet"))] false K)))))
    case non => cases e; exact kitB0_ok (show kitB0 "NoneType" [(.ref (He.ga K "PeriodicSet"))] false K = true from (c.fact 124 (f := fun K => kitB0 "NoneType" [(.ref (He.ga K "PeriodicSet"))] false K)))
    case bl => cases e; exact kitB0_ok (show kitB0 "bool" [(.ref (He.ga K "PeriodicSet"))] false K = true from (c.fact 125 (f := fun K => kitB0 "bool" [(.ref (He.ga K "PeriodicSet"))] false K)))
    case int => cases e; exact kitB0_ok (show kitB0 "int" [(.ref (He.ga K "PeriodicSet"))] false K = true from (c.fact 126 (f := fun K => kitB0 "int" [(.ref (He.ga K "PeriodicSet"))] false K)))
    case str => cases e; exact kitB0_ok (show kitB0 "str" [(.ref (He.ga K "PeriodicSet"))] false K = true from (c.fact 127 (f := fun K => kitB0 "str" [(.ref (He.ga K "PeriodicSet"))] false K)))
    case lst => cases e; exact kitB0_ok (show kitB0 "list" [(.ref (He.ga K "PeriodicSet"))] false K = true from (c.fact 128 (f := fun K => kitB0 "list" [(.ref (He.ga K "PeriodicSet"))] false K)))
    case lsk => cases e; exact kitB0_ok (show kitB0 "list" [(.ref (He.ga K "PeriodicSet"))] false K = true from (c.fact 128 (f := fun K => kitB0 "list" [(.ref (He.ga K "PeriodicSet"))] false K)))
    case tup => cases e; exact kitB0_ok (show kitB0 "tuple" [(.ref (He.ga K "PeriodicSet"))] false K = true from (c.fact 129 (f := fun K => kitB0 "tuple" [(.ref (He.ga K "PeriodicSet"))] false K)))
    case dct => cases e; exact kitB0_ok (show kitB0 "dict" [(.ref (He.ga K "PeriodicSet"))] false K = true from (c.fact 130 (f := fun K => kitB0 "dict" [(.ref (He.ga K "PeriodicSet"))] false K)))
theorem tt_list_tuple_ok {K : PySem.W.Frag} (c : SaysX fb fn K) : TabOk K (tb K) [(.type "list"), (.type "tuple")] tt_list_tuple := by
  refine ⟨fun k l b e => ?_, fun d b e => ?_⟩
  · unfold tt_list_tuple at e
    dsimp only at e
    repeat' (split at e)
    all_goals (first | cases e; done | (subst_vars; first | exact owcB_ok (He.cls_ok (show (He.Fa.cls "PeriodicSet").ok K = true from (c.fact 29 (f := fun K => (He.Fa.cls "PeriodicSet").ok K)))) (show clsB (He.ga K "PeriodicSet") K = true from (c.fact 101 (f := fun K => clsB (He.ga K "PeriodicSet") K))) | exact owcB_ok (He.cls_ok (show (He.Fa.cls "Band").ok K = true from (c.fact 53 (f := fun K => (He.Fa.cls "Band").ok K)))) (show clsB (He.ga K "Band") K = true from (c.fact 102 (f := fun K => clsB (He.ga K "Band") K))) | exact owcB_ok (He.cls_ok (show (He.Fa.cls "Family").ok K = true from (c.fact 55 (f := fun K => (He.Fa.cls "Family").ok K)))) (show clsB (He.ga K "Family") K = true from (c.fact 103 (f := fun K => clsB (He.ga K "Family") K)))))
  · cases d <;> unfold tt_list_tuple at e <;> dsimp only at e
    case obj k l => (repeat' (split at e)) <;> (first | cases e; done | (subst_vars; cases e; first | exact kitB1_ok (show kitB1 (He.ga K "PeriodicSet") [(.type "list"), (.type "tuple")] false K = true from (c.fact 131 (f := fun K => kitB1 (He.ga K "PeriodicSet") [(.type "list"), (.type "tuple")] false K))) | exact kitB1_ok (show kitB1 (He.ga K "Band") [(.type "list"), (.type "tuple")] false K = true from (c.fact 132 (f := fun K => kitB1 (He.ga K "Band") [(.type "list"), (.type "tuple")] false K))) | exact kitB1_ok (show kitB1 (He.ga K "Family") [(.type "list"), (.type "tuple")] false K = true from (c.fact 133 (f := fun K => kitB1 (He.ga K "Family") [(.type "list"), (.type "tuple")] false K)))))
    case non => cases e; exact kitB0_ok (show kitB0 "NoneType" [(.type "list"), (.type "tuple")] false K = true from (c.fact 134 (f := fun K => kitB0 "NoneType" [(.type "list"), (.type "tuple")] false K)))
    case bl => cases e; exact kitB0_ok (show kitB0 "bool" [(.type "list"), (.type "tuple")] false K = true from (c.fact 135 (f := fun K => kitB0 "bool" [(.type "list"), (.type "tuple")] false K)))
    case int => cases e; exact kitB0_ok (show kitB0 "int" [(.type "list"), (.type "tuple")] false K = true from (c.fact 136 (f := fun K => kitB0 "int" [(.type "list"), (.type "tuple")] false K)))
    case str => cases e; exact kitB0_ok (show kitB0 "str" [(.type "list"), (.type "tuple")] false K = true from (c.fact 137 (f := fun K => kitB0 "str" [(.type "list"), (.type "tuple")] false K)))
    case lst => cases e; exact kitB0_ok (show kitB0 "list" [(.type "list"), (.type "tuple")] true K = true from (c.fact 138 (f := fun K => kitB0 "list" [(.type "list"), (.type "tuple")] true K)))
    case lsk => cases e; exact kitB0_ok (show kitB0 "list" [(.type "list"), (.type "tuple")] true K = true from (c.fact 138 (f := fun K => kitB0 "list" [(.type "list"), (.type "tuple")] true K)))
    case tup => cases e; exact kitB0_ok (show kitB0 "tuple" [(.type "list"), (.type "tuple")] true K = true from (c.fact 139 (f := fun K => kitB0 "tuple" [(.type "list"), (.type "tuple")] true K)))
    case dct => cases e; exact kitB0_ok (show kitB0 "dict" [(.type "list"), (.type "tuple")] false K = true from (c.fact 140 (f := fun K => kitB0 "dict" [(.type "list"), (.type "tuple")] false K)))
theorem tt_Band_ok {K : PySem.W.Frag} (c : SaysX fb fn K) : TabOk K (tb K) [(.ref (He.ga K "Band"))] tt_Band := by
  refine ⟨fun k l b e => ?_, fun d b e => ?_⟩
  · unfold tt_Band at e
    dsimp only at e
    repeat' (split at e)
    all_goals (first | cases e; done | (subst_vars; first | exact owcB_ok (He.cls_ok (show (He.Fa.cls "PeriodicSet").ok K = true from (c.fact 29 (f := fun K => (He.Fa.cls "PeriodicSet").ok K)))) (show clsB (He.ga K "PeriodicSet") K = true from (c.fact 101 (f := fun K => clsB (He.ga K "PeriodicSet") K))) | exact owcB_ok (He.cls_ok (show (He.Fa.cls "Band").ok K = true from (c.fact 53 (f := fun K => (He.Fa.cls "Band").ok K)))) (show clsB (He.ga K "Band") K = true from (c.fact 102 (f := fun K => clsB (He.ga K "Band") K))) | exact owcB_ok (He.cls_ok (show (He.Fa.cls "Family").ok K = true from (c.fact 55 (f := fun K => (He.Fa.cls "Family").ok K)))) (show clsB (He.ga K "Family") K = true from (c.fact 103 (f := fun K => clsB (He.ga K "Family") K)))))
  · cases d <;> unfold tt_Band at e <;> dsimp only at e
    case obj k l => (repeat' (split at e)) <;> (first | cases e; done | (subst_vars; cases e; first | exact kitB1_ok (show kitB1 (He.ga K "PeriodicSet") [(.ref (He.ga K "Band"))] false K = true from (c.fact 141 (f := fun K => kitB1 (He.ga K "PeriodicSet") [(.ref (He.ga K "Band"))] false K))) | exact kitB1_ok (show kitB1 (He.ga K "Band") [(.ref (He.ga K "Band"))] true K = true from (c.fact 142 (f := fun K => kitB1 (He.ga K "Band") [(.ref (He.ga K "Band"))] true K))) | exact kitB1_ok (show kitB1 (He.ga K "Family") [(.ref (He.ga K "Band"))] false K = true from (c.fact 143 (f := fun K => kitB1 (He.ga K "Family") [(.ref (He.ga K "Band"))] false K)))))
    case non => cases e; exact kitB0_ok (show kitB0 "NoneType" [(.ref (He.ga K "Band"))] false K = true from (c.fact 144 (f := fun K => kitB0 "NoneType" [(.ref (He.ga K "Band"))] false K)))
    case bl => cases e; exact kitB0_ok (show kitB0 "bool" [(.ref (He.ga K "Band"))] false K = true from (c.fact 145 (f := fun K => kitB0 "bool" [(.ref (He.ga K "Band"))] false K)))
    case int => cases e; exact kitB0_ok (show kitB0 "int" [(.ref (He.ga K "Band"))] false K = true from (c.fact 146 (f := fun K => kitB0 "int" [(.ref (He.ga K "Band"))] false K)))
    case str => cases e; exact kitB0_ok (show kitB0 "str" [(.ref (He.ga K "Band"))] false K = true from (c.fact 147 (f := fun K => kitB0 "str" [(.ref (He.ga K "Band"))] false K)))
    case lst => cases e; exact kitB0_ok (show kitB0 "list" [(.ref (He.ga K "Band"))] false K = true from (c.fact 148 (f := fun K => kitB0 "list" [(.ref (He.ga K "Band"))] false K)))
    case lsk => cases e; exact kitB0_ok (show kitB0 "list" [(.ref (He.ga K "Band"))] false K = true from (c.fact 148 (f := fun K => kitB0 "list" [(.ref (He.ga K "Band"))] false K)))
    case tup => cases e; exact kitB0_ok (show kitB0 "tuple" [(.ref (He.ga K "Band"))] false K = true from (c.fact 149 (f := fun K => kitB0 "tuple" [(.ref (He.ga K "Band"))] false K)))
    case dct => cases e; exact kitB0_ok (show kitB0 "dict" [(.ref (He.ga K "Band"))] false K = true from (c.fact 150 (f := fun K => kitB0 "dict" [(.ref (He.ga K "Band"))] false K)))
theorem tt_int_ok {K : PySem.W.Frag} (c : SaysX fb fn K) : TabOk K (tb K) [(.type "int")] tt_int := by
  refine ⟨fun k l b e => ?_, fun d b e => ?_⟩
  · unfold tt_int at e
    dsimp only at e
    repeat' (split at e)
    all_goals (first | cases e; done | (subst_vars; first | exact owcB_ok (He.cls_ok (show (He.Fa.cls "PeriodicSet").ok K = true from (c.fact 29 (f := fun K => (He.Fa.cls "PeriodicSet").ok K)))) (show clsB (He.ga K "PeriodicSet") K = true from (c.fact 101 (f := fun K => clsB (He.ga K "PeriodicSet") K))) | exact owcB_ok (He.cls_ok (show (He.Fa.cls "Band").ok K = true from (c.fact 53 (f := fun K => (He.Fa.cls "Band").ok K)))) (show clsB (He.ga K "Band") K = true from (c.fact 102 (f := fun K => clsB (He.ga K "Band") K))) | exact owcB_ok (He.cls_ok (show (He.Fa.cls "Family").ok K = true from (c.fact 55 (f := fun K => (He.Fa.cls "Family").ok K)))) (show clsB (He.ga K "Family") K = true from (c.fact 103 (f := fun K => clsB (He.ga K "Family") K)))))
  · cases d <;> unfold tt_int at e <;> dsimp only at e
    case obj k l => (repeat' (split at e)) <;> (first | cases e; done | (subst_vars; cases e; first | exact kitB1_ok (show kitB1 (He.ga K "PeriodicSet") [(.type "int")] false K = true from (c.fact 151 (f := fun K => kitB1 (He.ga K "PeriodicSet") [(.type "int")] false K))) | exact kitB1_ok (show kitB1 (He.ga K "Band") [(.type "int")] false K = true from (c.fact 152 (f := fun K => kitB1 (He.ga K "Band") [(.type "int")] false K))) | exact kitB1_ok (show kitB1 (He.ga K "Family") [(.type "int")] false K = true from (c.fact 153 (f := fun K => kitB1 (He.ga K "Family") [(.type "int")] false K)))))
    case non => cases e; exact kitB0_ok (show kitB0 "NoneType" [(.type "int")] false K = true from (c.fact 154 (f := fun K => kitB0 "NoneType" [(.type "int")] false K)))
    case bl => cases e; exact kitB0_ok (show kitB0 "bool" [(.type "int")] true K = true from (c.fact 155 (f := fun K => kitB0 "bool" [(.type "int")] true K)))
    case int => cases e; exact kitB0_ok (show kitB0 "int" [(.type "int")] true K = true from (c.fact 156 (f := fun K => kitB0 "int" [(.type "int")] true K)))
    case str => cases e; exact kitB0_ok (show kitB0 "str" [(.type "int")] false K = true from (c.fact 157 (f := fun K => kitB0 "str" [(.type "int")] false K)))
    case lst => cases e; exact kitB0_ok (show kitB0 "list" [(.type "int")] false K = true from (c.fact 158 (f := fun K => kitB0 "list" [(.type "int")] false K)))
    case lsk => cases e; exact kitB0_ok (show kitB0 "list" [(.type "int")] false K = true from (c.fact 158 (f := fun K => kitB0 "list" [(.type "int")] false K)))
    case tup => cases e; exact kitB0_ok (show kitB0 "tuple" [(.type "int")] false K = true from (c.fact 159 (f := fun K => kitB0 "tuple" [(.type "int")] false K)))
    case dct => cases e; exact kitB0_ok (show kitB0 "dict" [(.type "int")] false K = true from (c.fact 160 (f := fun K => kitB0 "dict" [(.type "int")] false K)))
theorem tt_bool_ok {K : PySem.W.Frag} (c : SaysX fb fn K) : TabOk K (tb K) [(.type "bool")] tt_bool := by
  refine ⟨fun k l b e => ?_, fun d b e => ?_⟩
  · unfold tt_bool at e
    dsimp only at e
    repeat' (split at e)
    all_goals (first | cases e; done | (subst_vars; first | exact owcB_ok (He.cls_ok (show (He.Fa.cls "PeriodicSet").ok K = true from (c.fact 29 (f := fun K => (He.Fa.cls "PeriodicSet").ok K)))) (show clsB (He.ga K "PeriodicSet") K = true from (c.fact 101 (f := fun K => clsB (He.ga K "PeriodicSet") K))) | exact owcB_ok (He.cls_ok (show (He.Fa.cls "Band").ok K = true from (c.fact 53 (f := fun K => (He.Fa.cls "Band").ok K)))) (show clsB (He.ga K "Band") K = true from (c.fact 102 (f := fun K => clsB (He.ga K "Band") K))) | exact owcB_ok (He.cls_ok (show (He.Fa.cls "Family").ok K = true from (c.fact 55 (f := fun K => (He.Fa.cls "Family").ok K)))) (show clsB (He.ga K "Family") K = true from (c.fact 103 (f := fun K => clsB (He.ga K "Family") K)))))
  · cases d <;> unfold tt_bool at e <;> dsimp only at e
    case obj k l => (repeat' (split at e)) <;> (first | cases e; done | (subst_vars; cases e; first | exact kitB1_ok (show kitB1 (He.ga K "PeriodicSet") [(.type "bool")] false K = true from (c.fact 161 (f := fun K => kitB1 (He.ga K "PeriodicSet") [(.type "bool")] false K))) | exact kitB1_ok (show kitB1 (He.ga K "Band") [(.type "bool")] false K = true from (c.fact 162 (f := fun K => kitB1 (He.ga K "Band") [(.type "bool")] false K))) | exact kitB1_ok (show kitB1 (He.ga K "Family") [(.type "bool")] false K = true from (c.fact 163 (f := fun K => kitB1 (He.ga K "Family") [(.type "bool")] false K)))))
    case non => cases e; exact kitB0_ok (show kitB0 "NoneType" [(.type "bool")] false K = true from (c.fact 164 (f := fun K => kitB0 "NoneType" [(.type "bool")] false K)))
    case bl => cases e; exact kitB0_ok (show kitB0 "bool" [(.type "bool")] true K = true from (c.fact 165 (f := fun K => kitB0 "bool" [(.type "bool")] true K)))
    case int => cases e; exact kitB0_ok (show kitB0 "int" [(.type "bool")] false K = true from (c.fact 166 (f := fun K => kitB0 "int" [(.type "bool")] false K)))
    case str => cases e; exact kitB0_ok (show kitB0 "str" [(.type "bool")] false K = true from (c.fact 167 (f := fun K => kitB0 "str" [(.type "bool")] false K)))
    case lst => cases e; exact kitB0_ok (show kitB0 "list" [(.type "bool")] false K = true from (c.fact 168 (f := fun K => kitB0 "list" [(.type "bool")] false K)))
    case lsk => cases e; exact kitB0_ok (show kitB0 "list" [(.type "bool")] false K = true from (c.fact 168 (f := fun K => kitB0 "list" [(.type "bool")] false K)))
    case tup => cases e; exact kitB0_ok (show kitB0 "tuple" [(.type "bool")] false K = true from (c.fact 169 (f := fun K => kitB0 "tuple" [(.type "bool")] false K)))
    case dct => cases e; exact kitB0_ok (show kitB0 "dict" [(.type "bool")] false K = true from (c.fact 170 (f := fun K => kitB0 "dict" [(.type "bool")] false K)))
abbrev N__law_digits : List Str := ["cell", "sizes", "row", "rest", "size", "seed", "k", "twice"]
theorem sc__law_digits : FnScope N__law_digits ["cell", "sizes"] d__law_digits.scope := ⟨rfl, rfl, rfl, by decide +kernel, rfl, by decide +kernel, by decide +kernel⟩
theorem ok__law_digits {K : PySem.W.Frag} {h : Heap} {mg : Str → Option Value} (XH : K.In h) (G : h.Ns mainGlobals mg) (c : SaysX fb fn K) {fd : FuncData}
    (Fd : FunD K d__law_digits.name d__law_digits.qual d__law_digits.params d__law_digits.body d__law_digits.scope (d__law_digits.dvs K) (d__law_digits.kws K) (He.ga K "_law_digits") fd) (P : Program) (w : World) (base : Heap) :
    FnOk P w K mg base (L2.CX P w) 1 (He.ga K "_law_digits") fd ["cell", "sizes"] (spD K (tb K) 2 Φ__law_digits) := by
  have nd : List.Nodup N__law_digits := sc__law_digits.nd
  refine fnDD (T := tb K) (g := g__law_digits) (N := N__law_digits) (k := 0) Fd sc__law_digits (by decide) (fun cdv A outer s H E hr tk po hu hu2 => ?_)
  unfold g__law_digits
  exact (qss_cons (s_own 2 nd rfl (by first | exact .inl rfl | exact .inr rfl) (q_lst qa_nil))
    (qss_cons (s_asg 3 nd rfl (by first | exact .inl rfl | exact .inr rfl) (q_T1 call_int1 snd_int (by rfl) (He.free_ok XH G (show (He.Fa.free "int").ok K = true from (c.fact 2 (f := fun K => (He.Fa.free "int").ok K)))) (by decide +kernel) (q_var 0)))
    (qss_cons (s_if (qt_cmp op_ge s_ge (q_var 3) (q_powI q_int q_int))
    (qss_cons (s_asg 3 nd rfl (by first | exact .inl rfl | exact .inr rfl) (q_subI (q_var 3) (q_powI q_int q_int)))
    (qss_cons (s_for po rfl (qi_all (q_var 1)) (g_name 4 nd rfl (by first | exact .inl rfl | exact .inr rfl))
    (qss_cons (s_app 2 rfl (by first | exact Or.inl rfl | exact Or.inr (Or.inl rfl)) (q_modI (q_T1 call_int1 snd_int (by rfl) (He.free_ok XH G (show (He.Fa.free "int").ok K = true from (c.fact 2 (f := fun K => (He.Fa.free "int").ok K)))) (by decide +kernel) (q_var 3)) (q_var 4)) (hpe := fun pe => pe_bm PySem.F.plainAttrs_list PySem.F.slot_list_append PySem.F.type_list_append mt_append (pv 2) (pa_cons pe pa_nil)))
    (qss_one (s_asg 3 nd rfl (by first | exact .inl rfl | exact .inr rfl) (q_divI (q_T1 call_int1 snd_int (by rfl) (He.free_ok XH G (show (He.Fa.free "int").ok K = true from (c.fact 2 (f := fun K => (He.Fa.free "int").ok K)))) (by decide +kernel) (q_var 3)) (q_var 4))))))
    (qss_one (s_ret (q_var 2)))))
    qss_nil)
    (qss_cons (s_asg 5 nd rfl (by first | exact .inl rfl | exact .inr rfl) (q_modI (q_T1 call_int1 snd_int (by rfl) (He.free_ok XH G (show (He.Fa.free "int").ok K = true from (c.fact 2 (f := fun K => (He.Fa.free "int").ok K)))) (by decide +kernel) (q_var 3)) q_int))
    (qss_cons (s_for po rfl (qi_r1 (by rfl) (He.free_ok XH G (show (He.Fa.free "range").ok K = true from (c.fact 1 (f := fun K => (He.Fa.free "range").ok K)))) (q_B1 call_lenA snd_len (by rfl) (He.free_ok XH G (show (He.Fa.free "len").ok K = true from (c.fact 0 (f := fun K => (He.Fa.free "len").ok K)))) (by decide +kernel) (q_var 1))) (g_name 6 nd rfl (by first | exact .inl rfl | exact .inr rfl))
    (qss_cons (s_asg 5 nd rfl (by first | exact .inl rfl | exact .inr rfl) (q_modI (q_T1 call_int1 snd_int (by rfl) (He.free_ok XH G (show (He.Fa.free "int").ok K = true from (c.fact 2 (f := fun K => (He.Fa.free "int").ok K)))) (by decide +kernel) (q_plus (q_plus (q_times (q_var 5) q_int) (q_times q_int (q_var 6))) q_int)) q_int))
    (qss_cons (s_asg 7 nd rfl (by first | exact .inl rfl | exact .inr rfl) (q_modI (q_T1 call_int1 snd_int (by rfl) (He.free_ok XH G (show (He.Fa.free "int").ok K = true from (c.fact 2 (f := fun K => (He.Fa.free "int").ok K)))) (by decide +kernel) (q_times (q_var 5) (q_plus (q_divI (q_var 5) q_int) q_int))) q_int))
    (qss_one (s_app 2 rfl (by first | exact Or.inl rfl | exact Or.inr (Or.inl rfl)) (q_modI (q_divI (q_var 7) q_int) (q_at hu (q_var 1) (q_var 6))) (hpe := fun pe => pe_bm PySem.F.plainAttrs_list PySem.F.slot_list_append PySem.F.type_list_append mt_append (pv 2) (pa_cons pe pa_nil)))))))
    (qss_one (s_ret (q_var 2))))))))
theorem df__law_digits_2 {K : PySem.W.Frag} {h : Heap} {mg : Str → Option Value} (XH : K.In h) (G : h.Ns mainGlobals mg) (c : SaysX fb fn K) : DF K mg (He.ga K "_law_digits") ["cell", "sizes"] [] 1 (spD K (tb K) 2 Φ__law_digits) := by
  obtain ⟨fd, Fd⟩ := c.says.def_ 39 (d := d__law_digits) rfl
  exact ⟨fd, [], Fd.kp, FunD.bindsN Fd (fun _ _ _ _ _ _ us hl => match us, hl with | [_, _], _ => rfl), .nil, fun P w base => ok__law_digits XH G c Fd P w base⟩
abbrev N__law_cell : List Str := ["script", "k", "seed", "cell"]
theorem sc__law_cell : FnScope N__law_cell ["script", "k"] d__law_cell.scope := ⟨rfl, rfl, rfl, by decide +kernel, rfl, by decide +kernel, by decide +kernel⟩
theorem ok__law_cell {K : PySem.W.Frag} {h : Heap} {mg : Str → Option Value} (XH : K.In h) (G : h.Ns mainGlobals mg) (c : SaysX fb fn K) {fd : FuncData}
    (Fd : FunD K d__law_cell.name d__law_cell.qual d__law_cell.params d__law_cell.body d__law_cell.scope (d__law_cell.dvs K) (d__law_cell.kws K) (He.ga K "_law_cell") fd) (P : Program) (w : World) (base : Heap) :
    FnOk P w K mg base (L2.CX P w) 1 (He.ga K "_law_cell") fd ["script", "k"] (spD K (tb K) 2 Φ__law_cell) := by
  have nd : List.Nodup N__law_cell := sc__law_cell.nd
  refine fnDD (T := tb K) (g := g__law_cell) (N := N__law_cell) (k := 0) Fd sc__law_cell (by decide) (fun cdv A outer s H E hr tk po hu hu2 => ?_)
  unfold g__law_cell
  exact (qss_cons (s_if (qt_cmp op_lt s_lt (q_var 1) (q_B1 call_lenA snd_len (by rfl) (He.free_ok XH G (show (He.Fa.free "len").ok K = true from (c.fact 0 (f := fun K => (He.Fa.free "len").ok K)))) (by decide +kernel) (q_var 0)))
    (qss_one (s_ret (q_at hu (q_var 0) (q_var 1))))
    qss_nil)
    (qss_cons (s_asg 2 nd rfl (by first | exact .inl rfl | exact .inr rfl) q_int)
    (qss_cons (s_for po rfl (qi_all (q_var 0)) (g_name 3 nd rfl (by first | exact .inl rfl | exact .inr rfl))
    (qss_one (s_asg 2 nd rfl (by first | exact .inl rfl | exact .inr rfl) (q_modI (q_T1 call_int1 snd_int (by rfl) (He.free_ok XH G (show (He.Fa.free "int").ok K = true from (c.fact 2 (f := fun K => (He.Fa.free "int").ok K)))) (by decide +kernel) (q_plus (q_times (q_var 2) q_int) (q_modI (q_T1 call_int1 snd_int (by rfl) (He.free_ok XH G (show (He.Fa.free "int").ok K = true from (c.fact 2 (f := fun K => (He.Fa.free "int").ok K)))) (by decide +kernel) (q_var 3)) q_int))) q_int))))
    (qss_one (s_ret (q_modI (q_T1 call_int1 snd_int (by rfl) (He.free_ok XH G (show (He.Fa.free "int").ok K = true from (c.fact 2 (f := fun K => (He.Fa.free "int").ok K)))) (by decide +kernel) (q_times (q_times (q_plus (q_var 2) q_int) (q_plus (q_var 1) q_int)) q_int)) q_int))))))
theorem df__law_cell_2 {K : PySem.W.Frag} {h : Heap} {mg : Str → Option Value} (XH : K.In h) (G : h.Ns mainGlobals mg) (c : SaysX fb fn K) : DF K mg (He.ga K "_law_cell") ["script", "k"] [] 1 (spD K (tb K) 2 Φ__law_cell) := by
  obtain ⟨fd, Fd⟩ := c.says.def_ 38 (d := d__law_cell) rfl
  exact ⟨fd, [], Fd.kp, FunD.bindsN Fd (fun _ _ _ _ _ _ us hl => match us, hl with | [_, _], _ => rfl), .nil, fun P w base => ok__law_cell XH G c Fd P w base⟩
abbrev N__law_band : List Str := ["period", "row", "rows", "r", "low", "c", "high", "at", "bit"]
theorem sc__law_band : FnScope N__law_band ["period", "row"] d__law_band.scope := ⟨rfl, rfl, rfl, by decide +kernel, rfl, by decide +kernel, by decide +kernel⟩
theorem ok__law_band {K : PySem.W.Frag} {h : Heap} {mg : Str → Option Value} (XH : K.In h) (G : h.Ns mainGlobals mg) (c : SaysX fb fn K) {fd : FuncData}
    (Fd : FunD K d__law_band.name d__law_band.qual d__law_band.params d__law_band.body d__law_band.scope (d__law_band.dvs K) (d__law_band.kws K) (He.ga K "_law_band") fd) (P : Program) (w : World) (base : Heap) :
    FnOk P w K mg base (L2.CX P w) 1 (He.ga K "_law_band") fd ["period", "row"] (spD K (tb K) 2 Φ__law_band) := by
  have nd : List.Nodup N__law_band := sc__law_band.nd
  refine fnDD (T := tb K) (g := g__law_band) (N := N__law_band) (k := 0) Fd sc__law_band (by decide) (fun cdv A outer s H E hr tk po hu hu2 => ?_)
  unfold g__law_band
  exact (qss_cons (s_own 2 nd rfl (by first | exact .inl rfl | exact .inr rfl) (q_lst qa_nil))
    (qss_cons (s_for po rfl (qi_r1 (by rfl) (He.free_ok XH G (show (He.Fa.free "range").ok K = true from (c.fact 1 (f := fun K => (He.Fa.free "range").ok K)))) (q_var 0)) (g_name 3 nd rfl (by first | exact .inl rfl | exact .inr rfl))
    (qss_cons (s_own 4 nd rfl (by first | exact .inl rfl | exact .inr rfl) (q_lc [("c", 5)] rfl nd (qi_r1 (by rfl) (He.free_ok XH G (show (He.Fa.free "range").ok K = true from (c.fact 1 (f := fun K => (He.Fa.free "range").ok K)))) (q_var 0)) (blkOk_of (N := N__law_band) (sc := d__law_band.scope) (by decide +kernel)) (by decide) (fun s_ H_ C_ cl_ fp_ => (g_name 5 nd rfl (by first | exact .inl rfl | exact .inr rfl))) (fun s_ H_ C_ cl_ fp_ => qts_nil) (fun s_ H_ C_ cl_ fp_ => (q_T1 call_int1 snd_int (by rfl) (He.free_ok XH G (show (He.Fa.free "int").ok K = true from (c.fact 2 (f := fun K => (He.Fa.free "int").ok K)))) (by decide +kernel) (q_cmp op_gt s_gt (q_at hu (q_var 1) (q_plus q_int (q_times q_int (q_plus (q_times (q_var 3) (q_var 0)) (q_var 5))))) q_int)))))
    (qss_cons (s_own 6 nd rfl (by first | exact .inl rfl | exact .inr rfl) (q_lc [("c", 5)] rfl nd (qi_r1 (by rfl) (He.free_ok XH G (show (He.Fa.free "range").ok K = true from (c.fact 1 (f := fun K => (He.Fa.free "range").ok K)))) (q_var 0)) (blkOk_of (N := N__law_band) (sc := d__law_band.scope) (by decide +kernel)) (by decide) (fun s_ H_ C_ cl_ fp_ => (g_name 5 nd rfl (by first | exact .inl rfl | exact .inr rfl))) (fun s_ H_ C_ cl_ fp_ => qts_nil) (fun s_ H_ C_ cl_ fp_ => (q_at hu (q_var 1) (q_plus q_int (q_times q_int (q_plus (q_times (q_var 3) (q_var 0)) (q_var 5))))))))
    (qss_cons (s_asg 7 nd rfl (by first | exact .inl rfl | exact .inr rfl) (q_at hu (q_var 1) (q_plus (q_plus q_int (q_times (q_times q_int (q_var 0)) (q_var 0))) (q_var 3))))
    (qss_cons (s_if (qt_cmp op_le s_le (q_at hu (q_var 1) q_int) q_int)
    (qss_cons (s_if (qt_cmp (op_eqD hu2) s_eq (q_B1 (cr_sum rfl) snd_sum (by rfl) (He.free_ok XH G (show (He.Fa.free "sum").ok K = true from (c.fact 3 (f := fun K => (He.Fa.free "sum").ok K)))) (by decide +kernel) (q_var 4)) q_int)
    (qss_one (s_setA 4 hu rfl (by first | exact Or.inl rfl | exact Or.inr (Or.inl rfl)) (q_var 3) q_int (fun pj pe => ps_asg pe (pg_sub (pv 4) pj set_list))))
    qss_nil)
    (qss_cons (s_own 6 nd rfl (by first | exact .inl rfl | exact .inr rfl) (q_lc [("c", 5)] rfl nd (qi_r1 (by rfl) (He.free_ok XH G (show (He.Fa.free "range").ok K = true from (c.fact 1 (f := fun K => (He.Fa.free "range").ok K)))) (q_var 0)) (blkOk_of (N := N__law_band) (sc := d__law_band.scope) (by decide +kernel)) (by decide) (fun s_ H_ C_ cl_ fp_ => (g_name 5 nd rfl (by first | exact .inl rfl | exact .inr rfl))) (fun s_ H_ C_ cl_ fp_ => qts_nil) (fun s_ H_ C_ cl_ fp_ => (q_times (q_at hu (q_var 6) (q_var 5)) (q_at hu (q_var 4) (q_var 5))))))
    (qss_cons (s_if (QW.t (qw_or (qt_cmp (op_eqD hu2) s_eq (q_B1 (cr_sum rfl) snd_sum (by rfl) (He.free_ok XH G (show (He.Fa.free "sum").ok K = true from (c.fact 3 (f := fun K => (He.Fa.free "sum").ok K)))) (by decide +kernel) (q_var 6)) q_int) (qw_or1 (qt_cmp (op_eqD hu2) s_eq (q_at hu (q_var 1) q_int) q_int))))
    (qss_one (s_own 6 nd rfl (by first | exact .inl rfl | exact .inr rfl) (q_T1 call_list_of snd_list (by rfl) (He.free_ok XH G (show (He.Fa.free "list").ok K = true from (c.fact 4 (f := fun K => (He.Fa.free "list").ok K)))) (by decide +kernel) (q_var 4))))
    qss_nil)
    (qss_one (s_asg 7 nd rfl (by first | exact .inl rfl | exact .inr rfl) (q_times (q_at hu (q_lst (qa_cons (q_var 7) (qa_cons (q_var 7) (qa_cons q_int (qa_cons q_int qa_nil))))) (q_at hu (q_var 1) q_int)) (q_at hu (q_var 4) (q_var 3))))))))
    qss_nil)
    (qss_cons (s_if (qt_cmp (op_eqD hu2) s_eq (q_at hu (q_var 1) q_int) q_int)
    (qss_one (s_own 4 nd rfl (by first | exact .inl rfl | exact .inr rfl) (q_lc [("c", 5)] rfl nd (qi_r1 (by rfl) (He.free_ok XH G (show (He.Fa.free "range").ok K = true from (c.fact 1 (f := fun K => (He.Fa.free "range").ok K)))) (q_var 0)) (blkOk_of (N := N__law_band) (sc := d__law_band.scope) (by decide +kernel)) (by decide) (fun s_ H_ C_ cl_ fp_ => (g_name 5 nd rfl (by first | exact .inl rfl | exact .inr rfl))) (fun s_ H_ C_ cl_ fp_ => qts_nil) (fun s_ H_ C_ cl_ fp_ => (q_times (q_at hu (q_var 4) (q_var 5)) (q_at hu (q_var 6) (q_var 5)))))))
    qss_nil)
    (qss_cons (s_if (qt_cmp (op_eqD hu2) s_eq (q_at hu (q_var 1) q_int) q_int)
    (qss_one (s_own 4 nd rfl (by first | exact .inl rfl | exact .inr rfl) (q_lc [("c", 5)] rfl nd (qi_r1 (by rfl) (He.free_ok XH G (show (He.Fa.free "range").ok K = true from (c.fact 1 (f := fun K => (He.Fa.free "range").ok K)))) (q_var 0)) (blkOk_of (N := N__law_band) (sc := d__law_band.scope) (by decide +kernel)) (by decide) (fun s_ H_ C_ cl_ fp_ => (g_name 5 nd rfl (by first | exact .inl rfl | exact .inr rfl))) (fun s_ H_ C_ cl_ fp_ => qts_nil) (fun s_ H_ C_ cl_ fp_ => q_int))))
    qss_nil)
    (qss_cons (s_if (qt_cmp (op_eqD hu2) s_eq (q_B1 (cr_sum rfl) snd_sum (by rfl) (He.free_ok XH G (show (He.Fa.free "sum").ok K = true from (c.fact 3 (f := fun K => (He.Fa.free "sum").ok K)))) (by decide +kernel) (q_var 6)) q_int)
    (qss_one (s_setA 6 hu rfl (by first | exact Or.inl rfl | exact Or.inr (Or.inl rfl)) (q_var 3) q_int (fun pj pe => ps_asg pe (pg_sub (pv 6) pj set_list))))
    qss_nil)
    (qss_one (s_app 2 rfl (by first | exact Or.inl rfl | exact Or.inr (Or.inl rfl)) (q_lst (qa_cons (q_join (q_strL []) (q_lc [("bit", 8)] rfl nd (qi_all (q_var 4)) (blkOk_of (N := N__law_band) (sc := d__law_band.scope) (by decide +kernel)) (by decide) (fun s_ H_ C_ cl_ fp_ => (g_name 8 nd rfl (by first | exact .inl rfl | exact .inr rfl))) (fun s_ H_ C_ cl_ fp_ => qts_nil) (fun s_ H_ C_ cl_ fp_ => (q_at hu (q_strL [48, 49]) (q_var 8))))) (qa_cons (q_at hu (q_strL [48, 49]) (q_var 7)) (qa_cons (q_join (q_strL []) (q_lc [("bit", 8)] rfl nd (qi_all (q_var 6)) (blkOk_of (N := N__law_band) (sc := d__law_band.scope) (by decide +kernel)) (by decide) (fun s_ H_ C_ cl_ fp_ => (g_name 8 nd rfl (by first | exact .inl rfl | exact .inr rfl))) (fun s_ H_ C_ cl_ fp_ => qts_nil) (fun s_ H_ C_ cl_ fp_ => (q_at hu (q_strL [48, 49]) (q_var 8))))) qa_nil)))) (hpe := fun pe => pe_bm PySem.F.plainAttrs_list PySem.F.slot_list_append PySem.F.type_list_append mt_append (pv 2) (pa_cons pe pa_nil))))))))))))
    (qss_one (s_ret (q_var 2)))))
theorem df__law_band_2 {K : PySem.W.Frag} {h : Heap} {mg : Str → Option Value} (XH : K.In h) (G : h.Ns mainGlobals mg) (c : SaysX fb fn K) : DF K mg (He.ga K "_law_band") ["period", "row"] [] 1 (spD K (tb K) 2 Φ__law_band) := by
  obtain ⟨fd, Fd⟩ := c.says.def_ 43 (d := d__law_band) rfl
  exact ⟨fd, [], Fd.kp, FunD.bindsN Fd (fun _ _ _ _ _ _ us hl => match us, hl with | [_, _], _ => rfl), .nil, fun P w base => ok__law_band XH G c Fd P w base⟩
abbrev N__law_fixed : List Str := ["period", "bands", "row", "bits", "cycle", "bit", "band", "base", "amount", "prefix", "x", "k", "spot"]
theorem sc__law_fixed : FnScope N__law_fixed ["period", "bands", "row"] d__law_fixed.scope := ⟨rfl, rfl, rfl, by decide +kernel, rfl, by decide +kernel, by decide +kernel⟩
theorem ok__law_fixed {K : PySem.W.Frag} {h : Heap} {mg : Str → Option Value} (XH : K.In h) (G : h.Ns mainGlobals mg) (c : SaysX fb fn K) {fd : FuncData}
    (Fd : FunD K d__law_fixed.name d__law_fixed.qual d__law_fixed.params d__law_fixed.body d__law_fixed.scope (d__law_fixed.dvs K) (d__law_fixed.kws K) (He.ga K "_law_fixed") fd) (P : Program) (w : World) (base : Heap) :
    FnOk P w K mg base (L2.CX P w) 1 (He.ga K "_law_fixed") fd ["period", "bands", "row"] (spD K (tb K) 3 Φ__law_fixed) := by
  have nd : List.Nodup N__law_fixed := sc__law_fixed.nd
  refine fnDD (T := tb K) (g := g__law_fixed) (N := N__law_fixed) (k := 0) Fd sc__law_fixed (by decide) (fun cdv A outer s H E hr tk po hu hu2 => ?_)
  unfold g__law_fixed
  exact (qss_cons (s_asg 3 nd rfl (by first | exact .inl rfl | exact .inr rfl) (q_sl (q_var 2) (qo_some q_int) (qo_some q_int)))
    (qss_cons (s_asg 4 nd rfl (by first | exact .inl rfl | exact .inr rfl) (q_join (q_strL []) (q_lc [("bit", 5)] rfl nd (qi_all (q_sl (q_var 2) (qo_some q_int) (qo_some (q_plus q_int (q_var 0))))) (blkOk_of (N := N__law_fixed) (sc := d__law_fixed.scope) (by decide +kernel)) (by decide) (fun s_ H_ C_ cl_ fp_ => (g_name 5 nd rfl (by first | exact .inl rfl | exact .inr rfl))) (fun s_ H_ C_ cl_ fp_ => qts_nil) (fun s_ H_ C_ cl_ fp_ => (q_at hu (q_strL [48, 49]) (q_var 5))))))
    (qss_cons (s_if (qt_cmp op_ninA s_ninA (q_strL [49]) (q_var 4))
    (qss_one (s_asg 4 nd rfl (by first | exact .inl rfl | exact .inr rfl) (q_times (q_strL [49]) (q_var 0))))
    qss_nil)
    (qss_cons (s_if (QW.t (qw_and (qt_cmp op_le s_le (q_at hu (q_var 2) q_int) q_int) (qw_and1 (qt_cmp op_gt s_gt (q_B1 call_lenA snd_len (by rfl) (He.free_ok XH G (show (He.Fa.free "len").ok K = true from (c.fact 0 (f := fun K => (He.Fa.free "len").ok K)))) (by decide +kernel) (q_var 1)) q_int))))
    (qss_cons (s_asg 6 nd rfl (by first | exact .inl rfl | exact .inr rfl) (q_at hu (q_var 1) (q_modI (q_T1 call_int1 snd_int (by rfl) (He.free_ok XH G (show (He.Fa.free "int").ok K = true from (c.fact 2 (f := fun K => (He.Fa.free "int").ok K)))) (by decide +kernel) (q_at hu (q_var 2) q_int)) (q_B1 call_lenA snd_len (by rfl) (He.free_ok XH G (show (He.Fa.free "len").ok K = true from (c.fact 0 (f := fun K => (He.Fa.free "len").ok K)))) (by decide +kernel) (q_var 1)))))
    (qss_cons (s_asg 7 nd rfl (by first | exact .inl rfl | exact .inr rfl) (q_at hu (q_at hu (q_var 6) (q_modI (q_T1 call_int1 snd_int (by rfl) (He.free_ok XH G (show (He.Fa.free "int").ok K = true from (c.fact 2 (f := fun K => (He.Fa.free "int").ok K)))) (by decide +kernel) (q_at hu (q_var 2) q_int)) (q_var 0))) q_int))
    (qss_cons (s_if (qt_cmp op_inA s_inA (q_strL [49]) (q_var 7))
    (qss_one (s_asg 4 nd rfl (by first | exact .inl rfl | exact .inr rfl) (q_var 7)))
    qss_nil)
    (qss_cons (s_asg 8 nd rfl (by first | exact .inl rfl | exact .inr rfl) (q_at hu (q_lst (qa_cons q_int (qa_cons q_int (qa_cons q_int (qa_cons q_int qa_nil))))) (q_at hu (q_var 2) q_int)))
    (qss_cons (s_lcO 9 [("x", 10)] rfl nd rfl rfl (by rfl) (qi_r1 (by rfl) (He.free_ok XH G (show (He.Fa.free "range").ok K = true from (c.fact 1 (f := fun K => (He.Fa.free "range").ok K)))) (q_var 8)) (blkOk_of (N := N__law_fixed) (sc := d__law_fixed.scope) (by decide +kernel)) (by decide) (fun s_ H_ C_ cl_ fp_ => (g_name 10 nd rfl (by first | exact .inl rfl | exact .inr rfl))) (fun s_ H_ C_ cl_ fp_ => qts_nil) (fun s_ H_ C_ cl_ fp_ => (q_T1 call_int1 snd_int (by rfl) (He.free_ok XH G (show (He.Fa.free "int").ok K = true from (c.fact 2 (f := fun K => (He.Fa.free "int").ok K)))) (by decide +kernel) (q_cmp (op_eqD hu2) s_eq (q_at hu (q_var 4) (q_modI (q_T1 call_int1 snd_int (by rfl) (He.free_ok XH G (show (He.Fa.free "int").ok K = true from (c.fact 2 (f := fun K => (He.Fa.free "int").ok K)))) (by decide +kernel) (q_var 10)) (q_var 0))) (q_strL [49])))))
    (qss_cons (s_for po rfl (qi_r1 (by rfl) (He.free_ok XH G (show (He.Fa.free "range").ok K = true from (c.fact 1 (f := fun K => (He.Fa.free "range").ok K)))) (q_at hu (q_lst (qa_cons q_int (qa_cons q_int (qa_cons q_int (qa_cons q_int qa_nil))))) (q_at hu (q_var 2) q_int))) (g_name 11 nd rfl (by first | exact .inl rfl | exact .inr rfl))
    (qss_cons (s_asg 12 nd rfl (by first | exact .inl rfl | exact .inr rfl) (q_modI (q_T1 call_int1 snd_int (by rfl) (He.free_ok XH G (show (He.Fa.free "int").ok K = true from (c.fact 2 (f := fun K => (He.Fa.free "int").ok K)))) (by decide +kernel) (q_at hu (q_var 2) (q_plus q_int (q_var 11)))) (q_B2 (call_max2 rfl) snd_max2 (by rfl) (He.free_ok XH G (show (He.Fa.free "max").ok K = true from (c.fact 5 (f := fun K => (He.Fa.free "max").ok K)))) (by decide +kernel) q_int (q_var 8))))
    (qss_one (s_setA 9 hu rfl (by first | exact Or.inl rfl | exact Or.inr (Or.inl rfl)) (q_var 12) (q_subI q_int (q_at hu (q_var 9) (q_var 12))) (fun pj pe => ps_asg pe (pg_sub (pv 9) pj set_list))))))
    (qss_one (s_ret (q_lst (qa_cons (q_join (q_strL []) (q_lc [("bit", 5)] rfl nd (qi_all (q_var 9)) (blkOk_of (N := N__law_fixed) (sc := d__law_fixed.scope) (by decide +kernel)) (by decide) (fun s_ H_ C_ cl_ fp_ => (g_name 5 nd rfl (by first | exact .inl rfl | exact .inr rfl))) (fun s_ H_ C_ cl_ fp_ => qts_nil) (fun s_ H_ C_ cl_ fp_ => (q_at hu (q_strL [48, 49]) (q_var 5))))) (qa_cons (q_var 4) qa_nil)))))))))))
    qss_nil)
    (qss_cons (s_if (qt_cmp (op_eqD hu2) s_eq (q_at hu (q_var 2) q_int) q_int)
    (qss_one (s_ret (q_lst (qa_cons (q_strL []) (qa_cons (q_times (q_strL [49]) (q_var 0)) qa_nil)))))
    qss_nil)
    (qss_one (s_ret (q_lst (qa_cons (q_join (q_strL []) (q_lc [("bit", 5)] rfl nd (qi_all (q_sl (q_var 3) qo_none (qo_some (q_at hu (q_var 2) q_int)))) (blkOk_of (N := N__law_fixed) (sc := d__law_fixed.scope) (by decide +kernel)) (by decide) (fun s_ H_ C_ cl_ fp_ => (g_name 5 nd rfl (by first | exact .inl rfl | exact .inr rfl))) (fun s_ H_ C_ cl_ fp_ => qts_nil) (fun s_ H_ C_ cl_ fp_ => (q_at hu (q_strL [48, 49]) (q_var 5))))) (qa_cons (q_var 4) qa_nil))))))))))
theorem df__law_fixed_3 {K : PySem.W.Frag} {h : Heap} {mg : Str → Option Value} (XH : K.In h) (G : h.Ns mainGlobals mg) (c : SaysX fb fn K) : DF K mg (He.ga K "_law_fixed") ["period", "bands", "row"] [] 1 (spD K (tb K) 3 Φ__law_fixed) := by
  obtain ⟨fd, Fd⟩ := c.says.def_ 44 (d := d__law_fixed) rfl
  exact ⟨fd, [], Fd.kp, FunD.bindsN Fd (fun _ _ _ _ _ _ us hl => match us, hl with | [_, _, _], _ => rfl), .nil, fun P w base => ok__law_fixed XH G c Fd P w base⟩
abbrev N__law_family : List Str := ["script", "at", "shape", "period", "sizes", "bands", "one", "row", "fixed", "k"]
theorem sc__law_family : FnScope N__law_family ["script", "at"] d__law_family.scope := ⟨rfl, rfl, rfl, by decide +kernel, rfl, by decide +kernel, by decide +kernel⟩
theorem ok__law_family {K : PySem.W.Frag} {h : Heap} {mg : Str → Option Value} (XH : K.In h) (G : h.Ns mainGlobals mg) (c : SaysX fb fn K) {fd : FuncData}
    (Fd : FunD K d__law_family.name d__law_family.qual d__law_family.params d__law_family.body d__law_family.scope (d__law_family.dvs K) (d__law_family.kws K) (He.ga K "_law_family") fd) (P : Program) (w : World) (base : Heap) :
    FnOk P w K mg base (L2.CX P w) 2 (He.ga K "_law_family") fd ["script", "at"] (spD K (tb K) 2 Φ__law_family) := by
  have nd : List.Nodup N__law_family := sc__law_family.nd
  refine fnDD (T := tb K) (g := g__law_family) (N := N__law_family) (k := 1) Fd sc__law_family (by decide) (fun cdv A outer s H E hr tk po hu hu2 => ?_)
  unfold g__law_family
  exact (qss_cons (s_asg 2 nd rfl (by first | exact .inl rfl | exact .inr rfl) (d_call (df__law_digits_2 XH G c) (He.glo_ok XH G (show (He.Fa.glo "_law_digits").ok K = true from (c.fact 8 (f := fun K => (He.Fa.glo "_law_digits").ok K)))) (fun _ => .nil) tk hr (qa_cons (d_call (df__law_cell_2 XH G c) (He.glo_ok XH G (show (He.Fa.glo "_law_cell").ok K = true from (c.fact 7 (f := fun K => (He.Fa.glo "_law_cell").ok K)))) (fun _ => .nil) tk hr (qa_cons (q_var 0) (qa_cons (q_var 1) qa_nil))) (qa_cons (q_lst (qa_cons q_int (qa_cons q_int (qa_cons q_int qa_nil)))) qa_nil))))
    (qss_cons (s_asg 3 nd rfl (by first | exact .inl rfl | exact .inr rfl) (q_at hu (q_lst (qa_cons q_int (qa_cons q_int (qa_cons q_int (qa_cons q_int (qa_cons q_int (qa_cons q_int (qa_cons q_int (qa_cons q_int qa_nil))))))))) (q_at hu (q_var 2) q_int)))
    (qss_cons (s_asg 4 nd rfl (by first | exact .inl rfl | exact .inr rfl) (q_plus (q_plus (q_lst (qa_cons q_int qa_nil)) (q_times (q_lst (qa_cons q_int (qa_cons q_int qa_nil))) (q_times (q_var 3) (q_var 3)))) (q_times (q_lst (qa_cons q_int qa_nil)) (q_var 3))))
    (qss_cons (s_own 5 nd rfl (by first | exact .inl rfl | exact .inr rfl) (q_lst (qa_cons (d_call (df__law_band_2 XH G c) (He.glo_ok XH G (show (He.Fa.glo "_law_band").ok K = true from (c.fact 9 (f := fun K => (He.Fa.glo "_law_band").ok K)))) (fun _ => .nil) tk hr (qa_cons (q_var 3) (qa_cons (d_call (df__law_digits_2 XH G c) (He.glo_ok XH G (show (He.Fa.glo "_law_digits").ok K = true from (c.fact 8 (f := fun K => (He.Fa.glo "_law_digits").ok K)))) (fun _ => .nil) tk hr (qa_cons (d_call (df__law_cell_2 XH G c) (He.glo_ok XH G (show (He.Fa.glo "_law_cell").ok K = true from (c.fact 7 (f := fun K => (He.Fa.glo "_law_cell").ok K)))) (fun _ => .nil) tk hr (qa_cons (q_var 0) (qa_cons (q_plus (q_var 1) q_int) qa_nil))) (qa_cons (q_var 4) qa_nil))) qa_nil))) qa_nil)))
    (qss_cons (s_if (qt_cmp op_ge s_ge (q_at hu (q_var 2) q_int) q_int)
    (qss_one (s_app 5 rfl (by first | exact Or.inl rfl | exact Or.inr (Or.inl rfl)) (d_call (df__law_band_2 XH G c) (He.glo_ok XH G (show (He.Fa.glo "_law_band").ok K = true from (c.fact 9 (f := fun K => (He.Fa.glo "_law_band").ok K)))) (fun _ => .nil) tk hr (qa_cons (q_var 3) (qa_cons (d_call (df__law_digits_2 XH G c) (He.glo_ok XH G (show (He.Fa.glo "_law_digits").ok K = true from (c.fact 8 (f := fun K => (He.Fa.glo "_law_digits").ok K)))) (fun _ => .nil) tk hr (qa_cons (d_call (df__law_cell_2 XH G c) (He.glo_ok XH G (show (He.Fa.glo "_law_cell").ok K = true from (c.fact 7 (f := fun K => (He.Fa.glo "_law_cell").ok K)))) (fun _ => .nil) tk hr (qa_cons (q_var 0) (qa_cons (q_plus (q_var 1) q_int) qa_nil))) (qa_cons (q_var 4) qa_nil))) qa_nil))) (hpe := fun pe => pe_bm PySem.F.plainAttrs_list PySem.F.slot_list_append PySem.F.type_list_append mt_append (pv 5) (pa_cons pe pa_nil))))
    qss_nil)
    (qss_cons (s_asg 6 nd rfl (by first | exact .inl rfl | exact .inr rfl) (q_plus (q_plus (q_lst (qa_cons q_int (qa_cons q_int (qa_cons q_int (qa_cons q_int (qa_cons q_int qa_nil)))))) (q_times (q_lst (qa_cons q_int qa_nil)) q_int)) (q_times (q_lst (qa_cons q_int qa_nil)) q_int)))
    (qss_cons (s_asg 7 nd rfl (by first | exact .inl rfl | exact .inr rfl) (d_call (df__law_digits_2 XH G c) (He.glo_ok XH G (show (He.Fa.glo "_law_digits").ok K = true from (c.fact 8 (f := fun K => (He.Fa.glo "_law_digits").ok K)))) (fun _ => .nil) tk hr (qa_cons (d_call (df__law_cell_2 XH G c) (He.glo_ok XH G (show (He.Fa.glo "_law_cell").ok K = true from (c.fact 7 (f := fun K => (He.Fa.glo "_law_cell").ok K)))) (fun _ => .nil) tk hr (qa_cons (q_var 0) (qa_cons (q_plus (q_var 1) q_int) qa_nil))) (qa_cons (q_times (q_var 6) q_int) qa_nil))))
    (qss_cons (s_lcA 8 [("k", 9)] rfl nd rfl rfl (by rfl) (qi_r1 (by rfl) (He.free_ok XH G (show (He.Fa.free "range").ok K = true from (c.fact 1 (f := fun K => (He.Fa.free "range").ok K)))) (q_at hu (q_lst (qa_cons q_int (qa_cons q_int (qa_cons q_int (qa_cons q_int (qa_cons q_int (qa_cons q_int (qa_cons q_int (qa_cons q_int qa_nil))))))))) (q_at hu (q_var 2) q_int))) (blkOk_of (N := N__law_family) (sc := d__law_family.scope) (by decide +kernel)) (by decide) (fun s_ H_ C_ cl_ fp_ => (g_name 9 nd rfl (by first | exact .inl rfl | exact .inr rfl))) (fun s_ H_ C_ cl_ fp_ => qts_nil) (fun s_ H_ C_ cl_ fp_ => (d_call (df__law_fixed_3 XH G c) (He.glo_ok XH G (show (He.Fa.glo "_law_fixed").ok K = true from (c.fact 6 (f := fun K => (He.Fa.glo "_law_fixed").ok K)))) (fun _ => .nil) takes0 hr (qa_cons (q_var 3) (qa_cons (q_var 5) (qa_cons (q_sl (q_var 7) (qo_some (q_times q_int (q_var 9))) (qo_some (q_plus (q_times q_int (q_var 9)) q_int))) qa_nil))))))
    (qss_one (s_fz 5 (s_ret (q_lst (qa_cons (q_var 3) (qa_cons (q_var 8) (qa_cons (q_var 5) qa_nil)))))))))))))))
theorem df__law_family_2 {K : PySem.W.Frag} {h : Heap} {mg : Str → Option Value} (XH : K.In h) (G : h.Ns mainGlobals mg) (c : SaysX fb fn K) : DF K mg (He.ga K "_law_family") ["script", "at"] [] 2 (spD K (tb K) 2 Φ__law_family) := by
  obtain ⟨fd, Fd⟩ := c.says.def_ 45 (d := d__law_family) rfl
  exact ⟨fd, [], Fd.kp, FunD.bindsN Fd (fun _ _ _ _ _ _ us hl => match us, hl with | [_, _], _ => rfl), .nil, fun P w base => ok__law_family XH G c Fd P w base⟩
abbrev N__law_list : List Str := ["script", "at", "upto", "shape", "period", "amount", "menu", "row", "fixed", "k", "bits", "j", "bit"]
theorem sc__law_list : FnScope N__law_list ["script", "at", "upto"] d__law_list.scope := ⟨rfl, rfl, rfl, by decide +kernel, rfl, by decide +kernel, by decide +kernel⟩
theorem ok__law_list {K : PySem.W.Frag} {h : Heap} {mg : Str → Option Value} (XH : K.In h) (G : h.Ns mainGlobals mg) (c : SaysX fb fn K) {fd : FuncData}
    (Fd : FunD K d__law_list.name d__law_list.qual d__law_list.params d__law_list.body d__law_list.scope (d__law_list.dvs K) (d__law_list.kws K) (He.ga K "_law_list") fd) (P : Program) (w : World) (base : Heap) :
    FnOk P w K mg base (L2.CX P w) 2 (He.ga K "_law_list") fd ["script", "at", "upto"] (spD K (tb K) 3 Φ__law_list) := by
  have nd : List.Nodup N__law_list := sc__law_list.nd
  refine fnDD (T := tb K) (g := g__law_list) (N := N__law_list) (k := 1) Fd sc__law_list (by decide) (fun cdv A outer s H E hr tk po hu hu2 => ?_)
  unfold g__law_list
  exact (qss_cons (s_asg 3 nd rfl (by first | exact .inl rfl | exact .inr rfl) (d_call (df__law_digits_2 XH G c) (He.glo_ok XH G (show (He.Fa.glo "_law_digits").ok K = true from (c.fact 8 (f := fun K => (He.Fa.glo "_law_digits").ok K)))) (fun _ => .nil) tk hr (qa_cons (d_call (df__law_cell_2 XH G c) (He.glo_ok XH G (show (He.Fa.glo "_law_cell").ok K = true from (c.fact 7 (f := fun K => (He.Fa.glo "_law_cell").ok K)))) (fun _ => .nil) tk hr (qa_cons (q_var 0) (qa_cons (q_var 1) qa_nil))) (qa_cons (q_lst (qa_cons q_int (qa_cons q_int qa_nil))) qa_nil))))
    (qss_cons (s_asg 4 nd rfl (by first | exact .inl rfl | exact .inr rfl) (q_at hu (q_lst (qa_cons q_int (qa_cons q_int (qa_cons q_int (qa_cons q_int (qa_cons q_int (qa_cons q_int (qa_cons q_int (qa_cons q_int qa_nil))))))))) (q_at hu (q_var 3) q_int)))
    (qss_cons (s_asg 5 nd rfl (by first | exact .inl rfl | exact .inr rfl) (q_plus q_int (q_modI (q_divI (q_at hu (q_var 3) q_int) q_int) (q_B2 (call_max2 rfl) snd_max2 (by rfl) (He.free_ok XH G (show (He.Fa.free "max").ok K = true from (c.fact 5 (f := fun K => (He.Fa.free "max").ok K)))) (by decide +kernel) q_int (q_subI (q_var 2) q_int)))))
    (qss_cons (s_asg 6 nd rfl (by first | exact .inl rfl | exact .inr rfl) (q_at hu (q_lst (qa_cons (q_lst (qa_cons (q_strL [49]) qa_nil)) (qa_cons (q_lst (qa_cons (q_strL [49, 48]) (qa_cons (q_strL [48, 49]) (qa_cons (q_strL [49, 49]) (qa_cons (q_strL [49, 48]) (qa_cons (q_strL [48, 49]) qa_nil)))))) (qa_cons (q_lst (qa_cons (q_strL [49, 49, 48]) (qa_cons (q_strL [48, 49, 49]) (qa_cons (q_strL [49, 48, 49]) (qa_cons (q_strL [49, 48, 48]) (qa_cons (q_strL [48, 49, 48]) (qa_cons (q_strL [48, 48, 49]) qa_nil))))))) (qa_cons (q_lst (qa_cons (q_strL [49, 49, 48, 48]) (qa_cons (q_strL [48, 48, 49, 49]) (qa_cons (q_strL [49, 48, 49, 48]) (qa_cons (q_strL [48, 49, 48, 49]) (qa_cons (q_strL [48, 49, 49, 49]) (qa_cons (q_strL [49, 48, 49, 49]) (qa_cons (q_strL [49, 49, 49, 48]) (qa_cons (q_strL [49, 48, 48, 48]) qa_nil))))))))) qa_nil))))) (q_subI (q_var 4) q_int)))
    (qss_cons (s_asg 7 nd rfl (by first | exact .inl rfl | exact .inr rfl) (d_call (df__law_digits_2 XH G c) (He.glo_ok XH G (show (He.Fa.glo "_law_digits").ok K = true from (c.fact 8 (f := fun K => (He.Fa.glo "_law_digits").ok K)))) (fun _ => .nil) tk hr (qa_cons (d_call (df__law_cell_2 XH G c) (He.glo_ok XH G (show (He.Fa.glo "_law_cell").ok K = true from (c.fact 7 (f := fun K => (He.Fa.glo "_law_cell").ok K)))) (fun _ => .nil) tk hr (qa_cons (q_var 0) (qa_cons (q_plus (q_var 1) q_int) qa_nil))) (qa_cons (q_plus (q_times (q_lst (qa_cons q_int (qa_cons q_int qa_nil))) q_int) (q_times (q_lst (qa_cons q_int qa_nil)) q_int)) qa_nil))))
    (qss_cons (s_own 8 nd rfl (by first | exact .inl rfl | exact .inr rfl) (q_lst qa_nil))
    (qss_cons (s_for po rfl (qi_r1 (by rfl) (He.free_ok XH G (show (He.Fa.free "range").ok K = true from (c.fact 1 (f := fun K => (He.Fa.free "range").ok K)))) (q_var 5)) (g_name 9 nd rfl (by first | exact .inl rfl | exact .inr rfl))
    (qss_cons (s_asg 10 nd rfl (by first | exact .inl rfl | exact .inr rfl) (q_sl (q_var 7) (qo_some (q_plus q_int (q_times q_int (q_var 9)))) (qo_some (q_plus q_int (q_times q_int (q_var 9))))))
    (qss_cons (s_if (QW.t (qw_and (qt_cmp (op_eqD hu2) s_eq (q_modI (q_var 9) q_int) q_int) (qw_and1 (qt_cmp op_lt s_lt (q_modI (q_at hu (q_var 3) q_int) q_int) q_int))))
    (qss_one (s_lcA 10 [("j", 11)] rfl nd rfl rfl (by rfl) (qi_r1 (by rfl) (He.free_ok XH G (show (He.Fa.free "range").ok K = true from (c.fact 1 (f := fun K => (He.Fa.free "range").ok K)))) q_int) (blkOk_of (N := N__law_list) (sc := d__law_list.scope) (by decide +kernel)) (by decide) (fun s_ H_ C_ cl_ fp_ => (g_name 11 nd rfl (by first | exact .inl rfl | exact .inr rfl))) (fun s_ H_ C_ cl_ fp_ => qts_nil) (fun s_ H_ C_ cl_ fp_ => (q_T1 call_int1 snd_int (by rfl) (He.free_ok XH G (show (He.Fa.free "int").ok K = true from (c.fact 2 (f := fun K => (He.Fa.free "int").ok K)))) (by decide +kernel) (q_cmp op_gt s_gt (q_plus (q_at hu (q_var 7) (q_plus q_int (q_var 11))) (q_at hu (q_var 7) (q_plus q_int (q_var 11)))) q_int)))))
    qss_nil)
    (qss_one (s_app 8 rfl (by first | exact Or.inl rfl | exact Or.inr (Or.inl rfl)) (q_lst (qa_cons (q_join (q_strL []) (q_lc [("bit", 12)] rfl nd (qi_all (q_sl (q_var 10) qo_none (qo_some (q_at hu (q_var 7) (q_times q_int (q_var 9)))))) (blkOk_of (N := N__law_list) (sc := d__law_list.scope) (by decide +kernel)) (by decide) (fun s_ H_ C_ cl_ fp_ => (g_name 12 nd rfl (by first | exact .inl rfl | exact .inr rfl))) (fun s_ H_ C_ cl_ fp_ => qts_nil) (fun s_ H_ C_ cl_ fp_ => (q_at hu (q_strL [48, 49]) (q_var 12))))) (qa_cons (q_at hu (q_var 6) (q_modI (q_T1 call_int1 snd_int (by rfl) (He.free_ok XH G (show (He.Fa.free "int").ok K = true from (c.fact 2 (f := fun K => (He.Fa.free "int").ok K)))) (by decide +kernel) (q_at hu (q_var 7) (q_plus (q_times q_int (q_var 9)) q_int))) (q_B1 call_lenA snd_len (by rfl) (He.free_ok XH G (show (He.Fa.free "len").ok K = true from (c.fact 0 (f := fun K => (He.Fa.free "len").ok K)))) (by decide +kernel) (q_var 6)))) qa_nil))) (hpe := fun pe => pe_bm PySem.F.plainAttrs_list PySem.F.slot_list_append PySem.F.type_list_append mt_append (pv 8) (pa_cons pe pa_nil)))))))
    (qss_one (s_fz 8 (s_ret (q_lst (qa_cons (q_var 4) (qa_cons (q_var 8) (qa_cons (q_lst qa_nil) qa_nil))))))))))))))
theorem df__law_list_3 {K : PySem.W.Frag} {h : Heap} {mg : Str → Option Value} (XH : K.In h) (G : h.Ns mainGlobals mg) (c : SaysX fb fn K) : DF K mg (He.ga K "_law_list") ["script", "at", "upto"] [] 2 (spD K (tb K) 3 Φ__law_list) := by
  obtain ⟨fd, Fd⟩ := c.says.def_ 46 (d := d__law_list) rfl
  exact ⟨fd, [], Fd.kp, FunD.bindsN Fd (fun _ _ _ _ _ _ us hl => match us, hl with | [_, _, _], _ => rfl), .nil, fun P w base => ok__law_list XH G c Fd P w base⟩
abbrev N__law_any_family : List Str := ["script", "at"]
theorem sc__law_any_family : FnScope N__law_any_family ["script", "at"] d__law_any_family.scope := ⟨rfl, rfl, rfl, by decide +kernel, rfl, by decide +kernel, by decide +kernel⟩
theorem ok__law_any_family {K : PySem.W.Frag} {h : Heap} {mg : Str → Option Value} (XH : K.In h) (G : h.Ns mainGlobals mg) (c : SaysX fb fn K) {fd : FuncData}
    (Fd : FunD K d__law_any_family.name d__law_any_family.qual d__law_any_family.params d__law_any_family.body d__law_any_family.scope (d__law_any_family.dvs K) (d__law_any_family.kws K) (He.ga K "_law_any_family") fd) (P : Program) (w : World) (base : Heap) :
    FnOk P w K mg base (L2.CX P w) 3 (He.ga K "_law_any_family") fd ["script", "at"] (spD K (tb K) 2 Φ__law_any_family) := by
  have nd : List.Nodup N__law_any_family := sc__law_any_family.nd
  refine fnDD (T := tb K) (g := g__law_any_family) (N := N__law_any_family) (k := 2) Fd sc__law_any_family (by decide) (fun cdv A outer s H E hr tk po hu hu2 => ?_)
  unfold g__law_any_family
  exact (qss_cons (s_if (qt_cmp (op_eqD hu2) s_eq (q_at hu (d_call (df__law_digits_2 XH G c) (He.glo_ok XH G (show (He.Fa.glo "_law_digits").ok K = true from (c.fact 8 (f := fun K => (He.Fa.glo "_law_digits").ok K)))) (fun _ => .nil) tk hr (qa_cons (d_call (df__law_cell_2 XH G c) (He.glo_ok XH G (show (He.Fa.glo "_law_cell").ok K = true from (c.fact 7 (f := fun K => (He.Fa.glo "_law_cell").ok K)))) (fun _ => .nil) tk hr (qa_cons (q_var 0) (qa_cons (q_var 1) qa_nil))) (qa_cons (q_lst (qa_cons q_int (qa_cons q_int qa_nil))) qa_nil))) q_int) q_int)
    (qss_one (s_ret (d_call (df__law_list_3 XH G c) (He.glo_ok XH G (show (He.Fa.glo "_law_list").ok K = true from (c.fact 11 (f := fun K => (He.Fa.glo "_law_list").ok K)))) (fun _ => .nil) tk hr (qa_cons (q_var 0) (qa_cons (q_var 1) (qa_cons q_int qa_nil))))))
    qss_nil)
    (qss_one (s_ret (d_call (df__law_family_2 XH G c) (He.glo_ok XH G (show (He.Fa.glo "_law_family").ok K = true from (c.fact 10 (f := fun K => (He.Fa.glo "_law_family").ok K)))) (fun _ => .nil) tk hr (qa_cons (q_var 0) (qa_cons (q_var 1) qa_nil))))))
theorem df__law_any_family_2 {K : PySem.W.Frag} {h : Heap} {mg : Str → Option Value} (XH : K.In h) (G : h.Ns mainGlobals mg) (c : SaysX fb fn K) : DF K mg (He.ga K "_law_any_family") ["script", "at"] [] 3 (spD K (tb K) 2 Φ__law_any_family) := by
  obtain ⟨fd, Fd⟩ := c.says.def_ 47 (d := d__law_any_family) rfl
  exact ⟨fd, [], Fd.kp, FunD.bindsN Fd (fun _ _ _ _ _ _ us hl => match us, hl with | [_, _], _ => rfl), .nil, fun P w base => ok__law_any_family XH G c Fd P w base⟩
abbrev N_PeriodicSet_is_infinite : List Str := ["self"]
theorem sc_PeriodicSet_is_infinite : FnScope N_PeriodicSet_is_infinite ["self"] d_PeriodicSet_is_infinite.scope := ⟨rfl, rfl, rfl, by decide +kernel, rfl, by decide +kernel, by decide +kernel⟩
theorem ok_PeriodicSet_is_infinite {K : PySem.W.Frag} {h : Heap} {mg : Str → Option Value} (XH : K.In h) (G : h.Ns mainGlobals mg) (c : SaysX fb fn K) {fd : FuncData}
    (Fd : FunD K d_PeriodicSet_is_infinite.name d_PeriodicSet_is_infinite.qual d_PeriodicSet_is_infinite.params d_PeriodicSet_is_infinite.body d_PeriodicSet_is_infinite.scope (d_PeriodicSet_is_infinite.dvs K) (d_PeriodicSet_is_infinite.kws K) (He.ma K (He.ga K "PeriodicSet") "is_infinite") fd) (P : Program) (w : World) (base : Heap) :
    FnOk P w K mg base (L2.CX P w) 1 (He.ma K (He.ga K "PeriodicSet") "is_infinite") fd ["self"] (spD K (tb K) 1 Φ_PeriodicSet_is_infinite) := by
  have nd : List.Nodup N_PeriodicSet_is_infinite := sc_PeriodicSet_is_infinite.nd
  refine fnDD (T := tb K) (g := g_PeriodicSet_is_infinite) (N := N_PeriodicSet_is_infinite) (k := 0) Fd sc_PeriodicSet_is_infinite (by decide) (fun cdv A outer s H E hr tk po hu hu2 => ?_)
  unfold g_PeriodicSet_is_infinite
  exact (qss_one (s_ret (q_cmp op_inA s_inA (q_strL [49]) (q_fld tab_cycle (tabok_cycle c) (q_var 0)))))
theorem df_PeriodicSet_is_infinite_1 {K : PySem.W.Frag} {h : Heap} {mg : Str → Option Value} (XH : K.In h) (G : h.Ns mainGlobals mg) (c : SaysX fb fn K) : DF K mg (He.ma K (He.ga K "PeriodicSet") "is_infinite") ["self"] [] 1 (spD K (tb K) 1 Φ_PeriodicSet_is_infinite) := by
  obtain ⟨fd, Fd⟩ := c.says.def_ 23 (d := d_PeriodicSet_is_infinite) rfl
  exact ⟨fd, [], Fd.kp, FunD.bindsN Fd (fun _ _ _ _ _ _ us hl => match us, hl with | [_], _ => rfl), .nil, fun P w base => ok_PeriodicSet_is_infinite XH G c Fd P w base⟩
abbrev N_least_cycle : List Str := ["cycle", "length"]
theorem sc_least_cycle : FnScope N_least_cycle ["cycle"] d_least_cycle.scope := ⟨rfl, rfl, rfl, by decide +kernel, rfl, by decide +kernel, by decide +kernel⟩
theorem ok_least_cycle {K : PySem.W.Frag} {h : Heap} {mg : Str → Option Value} (XH : K.In h) (G : h.Ns mainGlobals mg) (c : SaysX fb fn K) {fd : FuncData}
    (Fd : FunD K d_least_cycle.name d_least_cycle.qual d_least_cycle.params d_least_cycle.body d_least_cycle.scope (d_least_cycle.dvs K) (d_least_cycle.kws K) (He.ga K "least_cycle") fd) (P : Program) (w : World) (base : Heap) :
    FnOk P w K mg base (L2.CX P w) 1 (He.ga K "least_cycle") fd ["cycle"] (spD K (tb K) 1 Φ_least_cycle) := by
  have nd : List.Nodup N_least_cycle := sc_least_cycle.nd
  refine fnDD (T := tb K) (g := g_least_cycle) (N := N_least_cycle) (k := 0) Fd sc_least_cycle (by decide) (fun cdv A outer s H E hr tk po hu hu2 => ?_)
  unfold g_least_cycle
  exact (qss_cons (s_for po rfl (qi_r2 (by rfl) (He.free_ok XH G (show (He.Fa.free "range").ok K = true from (c.fact 1 (f := fun K => (He.Fa.free "range").ok K)))) q_int (q_B1 call_lenA snd_len (by rfl) (He.free_ok XH G (show (He.Fa.free "len").ok K = true from (c.fact 0 (f := fun K => (He.Fa.free "len").ok K)))) (by decide +kernel) (q_var 0))) (g_name 1 nd rfl (by first | exact .inl rfl | exact .inr rfl))
    (qss_one (s_if (QW.t (qw_and (qt_cmp (op_eqD hu2) s_eq (q_modI (q_B1 call_lenA snd_len (by rfl) (He.free_ok XH G (show (He.Fa.free "len").ok K = true from (c.fact 0 (f := fun K => (He.Fa.free "len").ok K)))) (by decide +kernel) (q_var 0)) (q_var 1)) q_int) (qw_and1 (qt_cmp (op_eqD hu2) s_eq (q_var 0) (q_times (q_sl (q_var 0) qo_none (qo_some (q_var 1))) (q_divI (q_B1 call_lenA snd_len (by rfl) (He.free_ok XH G (show (He.Fa.free "len").ok K = true from (c.fact 0 (f := fun K => (He.Fa.free "len").ok K)))) (by decide +kernel) (q_var 0)) (q_var 1)))))))
    (qss_one (s_ret (q_sl (q_var 0) qo_none (qo_some (q_var 1)))))
    qss_nil)))
    (qss_one (s_ret (q_var 0))))
theorem df_least_cycle_1 {K : PySem.W.Frag} {h : Heap} {mg : Str → Option Value} (XH : K.In h) (G : h.Ns mainGlobals mg) (c : SaysX fb fn K) : DF K mg (He.ga K "least_cycle") ["cycle"] [] 1 (spD K (tb K) 1 Φ_least_cycle) := by
  obtain ⟨fd, Fd⟩ := c.says.def_ 12 (d := d_least_cycle) rfl
  exact ⟨fd, [], Fd.kp, FunD.bindsN Fd (fun _ _ _ _ _ _ us hl => match us, hl with | [_], _ => rfl), .nil, fun P w base => ok_least_cycle XH G c Fd P w base⟩
abbrev N_least_prefix : List Str := ["prefix", "cycle", "size"]
theorem sc_least_prefix : FnScope N_least_prefix ["prefix", "cycle"] d_least_prefix.scope := ⟨rfl, rfl, rfl, by decide +kernel, rfl, by decide +kernel, by decide +kernel⟩
theorem ok_least_prefix {K : PySem.W.Frag} {h : Heap} {mg : Str → Option Value} (XH : K.In h) (G : h.Ns mainGlobals mg) (c : SaysX fb fn K) {fd : FuncData}
    (Fd : FunD K d_least_prefix.name d_least_prefix.qual d_least_prefix.params d_least_prefix.body d_least_prefix.scope (d_least_prefix.dvs K) (d_least_prefix.kws K) (He.ga K "least_prefix") fd) (P : Program) (w : World) (base : Heap) :
    FnOk P w K mg base (L2.CX P w) 1 (He.ga K "least_prefix") fd ["prefix", "cycle"] (spD K (tb K) 2 Φ_least_prefix) := by
  have nd : List.Nodup N_least_prefix := sc_least_prefix.nd
  refine fnDD (T := tb K) (g := g_least_prefix) (N := N_least_prefix) (k := 0) Fd sc_least_prefix (by decide) (fun cdv A outer s H E hr tk po hu hu2 => ?_)
  unfold g_least_prefix
  exact (qss_cons (s_asg 2 nd rfl (by first | exact .inl rfl | exact .inr rfl) (q_B1 call_lenA snd_len (by rfl) (He.free_ok XH G (show (He.Fa.free "len").ok K = true from (c.fact 0 (f := fun K => (He.Fa.free "len").ok K)))) (by decide +kernel) (q_var 0)))
    (qss_cons (s_while 100000 po (QW.t (qw_and (qt_cmp op_gt s_gt (q_var 2) q_int) (qw_and1 (qt_cmp (op_eqD hu2) s_eq (q_at hu (q_var 0) (q_subI (q_var 2) q_int)) (q_at hu (q_var 1) (q_modI (q_subI (q_var 2) q_int) (q_B1 call_lenA snd_len (by rfl) (He.free_ok XH G (show (He.Fa.free "len").ok K = true from (c.fact 0 (f := fun K => (He.Fa.free "len").ok K)))) (by decide +kernel) (q_var 1))))))))
    (qss_one (s_aug 2 ip_sub nd rfl (by first | exact .inl rfl | exact .inr rfl) q_int)))
    (qss_one (s_ret (q_sl (q_var 0) qo_none (qo_some (q_var 2)))))))
theorem df_least_prefix_2 {K : PySem.W.Frag} {h : Heap} {mg : Str → Option Value} (XH : K.In h) (G : h.Ns mainGlobals mg) (c : SaysX fb fn K) : DF K mg (He.ga K "least_prefix") ["prefix", "cycle"] [] 1 (spD K (tb K) 2 Φ_least_prefix) := by
  obtain ⟨fd, Fd⟩ := c.says.def_ 13 (d := d_least_prefix) rfl
  exact ⟨fd, [], Fd.kp, FunD.bindsN Fd (fun _ _ _ _ _ _ us hl => match us, hl with | [_, _], _ => rfl), .nil, fun P w base => ok_least_prefix XH G c Fd P w base⟩
abbrev N_frozen : List Str := ["value"]
theorem sc_frozen : FnScope N_frozen ["value"] d_frozen.scope := ⟨rfl, rfl, rfl, by decide +kernel, rfl, by decide +kernel, by decide +kernel⟩
theorem ok_frozen {K : PySem.W.Frag} {h : Heap} {mg : Str → Option Value} (XH : K.In h) (G : h.Ns mainGlobals mg) (c : SaysX fb fn K) {fd : FuncData}
    (Fd : FunD K d_frozen.name d_frozen.qual d_frozen.params d_frozen.body d_frozen.scope (d_frozen.dvs K) (d_frozen.kws K) (He.ga K "frozen") fd) (P : Program) (w : World) (base : Heap) :
    FnOk P w K mg base (L2.CX P w) 1 (He.ga K "frozen") fd ["value"] (spD K (tb K) 1 Φ_frozen) := by
  have nd : List.Nodup N_frozen := sc_frozen.nd
  refine fnDD (T := tb K) (g := g_frozen) (N := N_frozen) (k := 0) Fd sc_frozen (by decide) (fun cdv A outer s H E hr tk po hu hu2 => ?_)
  unfold g_frozen
  exact (qss_cons (s_if (qt_val (q_isi (q_var 0) (pe_bltn (by rfl) (He.free_ok XH G (show (He.Fa.free "list").ok K = true from (c.fact 4 (f := fun K => (He.Fa.free "list").ok K)))) (v := .ty "list") (u := .type "list") (by decide +kernel) rfl) (.ty "list") (tt_list_ok c) (He.free_ok XH G (show (He.Fa.free "isinstance").ok K = true from (c.fact 12 (f := fun K => (He.Fa.free "isinstance").ok K)))) (by decide +kernel)))
    (qss_one (s_ret (q_T1 call_tuple_of snd_tuple (by rfl) (He.free_ok XH G (show (He.Fa.free "tuple").ok K = true from (c.fact 13 (f := fun K => (He.Fa.free "tuple").ok K)))) (by decide +kernel) (q_var 0))))
    qss_nil)
    (qss_one (s_ret (q_var 0))))
theorem df_frozen_1 {K : PySem.W.Frag} {h : Heap} {mg : Str → Option Value} (XH : K.In h) (G : h.Ns mainGlobals mg) (c : SaysX fb fn K) : DF K mg (He.ga K "frozen") ["value"] [] 1 (spD K (tb K) 1 Φ_frozen) := by
  obtain ⟨fd, Fd⟩ := c.says.def_ 0 (d := d_frozen) rfl
  exact ⟨fd, [], Fd.kp, FunD.bindsN Fd (fun _ _ _ _ _ _ us hl => match us, hl with | [_], _ => rfl), .nil, fun P w base => ok_frozen XH G c Fd P w base⟩
abbrev N_BadSet___init__ : List Str := ["self", "prefix", "cycle"]
theorem sc_BadSet___init__ : FnScope N_BadSet___init__ ["self", "prefix", "cycle"] d_BadSet___init__.scope := ⟨rfl, rfl, rfl, by decide +kernel, rfl, by decide +kernel, by decide +kernel⟩
theorem ok_BadSet___init__ {K : PySem.W.Frag} {h : Heap} {mg : Str → Option Value} (XH : K.In h) (G : h.Ns mainGlobals mg) (c : SaysX fb fn K) {fd : FuncData}
    (Fd : FunD K d_BadSet___init__.name d_BadSet___init__.qual d_BadSet___init__.params d_BadSet___init__.body d_BadSet___init__.scope (d_BadSet___init__.dvs K) (d_BadSet___init__.kws K) (He.ma K (He.ga K "BadSet") "__init__") fd) (P : Program) (w : World) (base : Heap) :
    FnOk P w K mg base (L2.CX P w) 2 (He.ma K (He.ga K "BadSet") "__init__") fd ["self", "prefix", "cycle"] (spX K (tb K) 11 2 Φ_BadSet___init__) := by
  have nd : List.Nodup N_BadSet___init__ := sc_BadSet___init__.nd
  refine fnXD 11 (T := tb K) (g := g_BadSet___init__) (N := N_BadSet___init__) (k := 1) Fd sc_BadSet___init__ (by decide) rfl (fun cdv A outer s H E hr tk po hu hu2 => ?_)
  unfold g_BadSet___init__
  exact (qx_cons (oexB_ok (show oexB (He.ga K "BadSet") K = true from (c.fact 15 (f := fun K => oexB (He.ga K "BadSet") K)))) (He.noat_ok (show (He.Fa.noat "BadSet" "prefix").ok K = true from (c.fact 17 (f := fun K => (He.Fa.noat "BadSet" "prefix").ok K)))) rfl (by decide) (d_call (df_frozen_1 XH G c) (He.glo_ok XH G (show (He.Fa.glo "frozen").ok K = true from (c.fact 14 (f := fun K => (He.Fa.glo "frozen").ok K)))) (fun _ => .nil) tk hr (qa_cons (q_var 1) qa_nil)) (qx_cons (oexB_ok (show oexB (He.ga K "BadSet") K = true from (c.fact 15 (f := fun K => oexB (He.ga K "BadSet") K)))) (He.noat_ok (show (He.Fa.noat "BadSet" "cycle").ok K = true from (c.fact 16 (f := fun K => (He.Fa.noat "BadSet" "cycle").ok K)))) rfl (by decide) (d_call (df_frozen_1 XH G c) (He.glo_ok XH G (show (He.Fa.glo "frozen").ok K = true from (c.fact 14 (f := fun K => (He.Fa.glo "frozen").ok K)))) (fun _ => .nil) tk hr (qa_cons (q_var 2) qa_nil)) qx_nil))
theorem df_BadSet___init___3 {K : PySem.W.Frag} {h : Heap} {mg : Str → Option Value} (XH : K.In h) (G : h.Ns mainGlobals mg) (c : SaysX fb fn K) : DF K mg (He.ma K (He.ga K "BadSet") "__init__") ["self", "prefix", "cycle"] [] 2 (spX K (tb K) 11 2 Φ_BadSet___init__) := by
  obtain ⟨fd, Fd⟩ := c.says.def_ 1 (d := d_BadSet___init__) rfl
  exact ⟨fd, [], Fd.kp, FunD.bindsN Fd (fun _ _ _ _ _ _ us hl => match us, hl with | [_, _, _], _ => rfl), .nil, fun P w base => ok_BadSet___init__ XH G c Fd P w base⟩
abbrev N_is_bits : List Str := ["value", "bit"]
theorem sc_is_bits : FnScope N_is_bits ["value"] d_is_bits.scope := ⟨rfl, rfl, rfl, by decide +kernel, rfl, by decide +kernel, by decide +kernel⟩
theorem ok_is_bits {K : PySem.W.Frag} {h : Heap} {mg : Str → Option Value} (XH : K.In h) (G : h.Ns mainGlobals mg) (c : SaysX fb fn K) {fd : FuncData}
    (Fd : FunD K d_is_bits.name d_is_bits.qual d_is_bits.params d_is_bits.body d_is_bits.scope (d_is_bits.dvs K) (d_is_bits.kws K) (He.ga K "is_bits") fd) (P : Program) (w : World) (base : Heap) :
    FnOk P w K mg base (L2.CX P w) 1 (He.ga K "is_bits") fd ["value"] (spD K (tb K) 1 Φ_is_bits) := by
  have nd : List.Nodup N_is_bits := sc_is_bits.nd
  refine fnDD (T := tb K) (g := g_is_bits) (N := N_is_bits) (k := 0) Fd sc_is_bits (by decide) (fun cdv A outer s H E hr tk po hu hu2 => ?_)
  unfold g_is_bits
  exact (qss_cons (s_if (qt_not (qt_val (q_isi (q_var 0) (pe_bltn (by rfl) (He.free_ok XH G (show (He.Fa.free "str").ok K = true from (c.fact 19 (f := fun K => (He.Fa.free "str").ok K)))) (v := .ty "str") (u := .type "str") (by decide +kernel) rfl) (.ty "str") (tt_str_ok c) (He.free_ok XH G (show (He.Fa.free "isinstance").ok K = true from (c.fact 12 (f := fun K => (He.Fa.free "isinstance").ok K)))) (by decide +kernel))))
    (qss_one (s_ret q_bl))
    qss_nil)
    (qss_one (s_ret (q_B1 (cr_all rfl) snd_all (by rfl) (He.free_ok XH G (show (He.Fa.free "all").ok K = true from (c.fact 18 (f := fun K => (He.Fa.free "all").ok K)))) (by decide +kernel) (q_lc [("bit", 1)] rfl nd (qi_all (q_var 0)) (blkOk_of (N := N_is_bits) (sc := d_is_bits.scope) (by decide +kernel)) (by decide) (fun s_ H_ C_ cl_ fp_ => (g_name 1 nd rfl (by first | exact .inl rfl | exact .inr rfl))) (fun s_ H_ C_ cl_ fp_ => qts_nil) (fun s_ H_ C_ cl_ fp_ => (q_cmp op_inA s_inA (q_var 1) (q_strL [48, 49]))))))))
theorem df_is_bits_1 {K : PySem.W.Frag} {h : Heap} {mg : Str → Option Value} (XH : K.In h) (G : h.Ns mainGlobals mg) (c : SaysX fb fn K) : DF K mg (He.ga K "is_bits") ["value"] [] 1 (spD K (tb K) 1 Φ_is_bits) := by
  obtain ⟨fd, Fd⟩ := c.says.def_ 11 (d := d_is_bits) rfl
  exact ⟨fd, [], Fd.kp, FunD.bindsN Fd (fun _ _ _ _ _ _ us hl => match us, hl with | [_], _ => rfl), .nil, fun P w base => ok_is_bits XH G c Fd P w base⟩
abbrev N_PeriodicSet___init__ : List Str := ["self", "prefix", "cycle"]
theorem sc_PeriodicSet___init__ : FnScope N_PeriodicSet___init__ ["self", "prefix", "cycle"] d_PeriodicSet___init__.scope := ⟨rfl, rfl, rfl, by decide +kernel, rfl, by decide +kernel, by decide +kernel⟩
theorem ok_PeriodicSet___init__ {K : PySem.W.Frag} {h : Heap} {mg : Str → Option Value} (XH : K.In h) (G : h.Ns mainGlobals mg) (c : SaysX fb fn K) {fd : FuncData}
    (Fd : FunD K d_PeriodicSet___init__.name d_PeriodicSet___init__.qual d_PeriodicSet___init__.params d_PeriodicSet___init__.body d_PeriodicSet___init__.scope (d_PeriodicSet___init__.dvs K) (d_PeriodicSet___init__.kws K) (He.ma K (He.ga K "PeriodicSet") "__init__") fd) (P : Program) (w : World) (base : Heap) :
    FnOk P w K mg base (L2.CX P w) 4 (He.ma K (He.ga K "PeriodicSet") "__init__") fd ["self", "prefix", "cycle"] (spI K (tb K) 35 2 Φ_PeriodicSet___init__) := by
  have nd : List.Nodup N_PeriodicSet___init__ := sc_PeriodicSet___init__.nd
  refine fnID 35 (T := tb K) (g := g_PeriodicSet___init__) (N := N_PeriodicSet___init__) (k := 3) Fd sc_PeriodicSet___init__ (by decide) rfl (fun cdv A outer s H E hr tk po hu hu2 => ?_)
  unfold g_PeriodicSet___init__
  exact (qss_cons (s_if (QW.t (qw_or (qt_not (qt_val (d_call (df_is_bits_1 XH G c) (He.glo_ok XH G (show (He.Fa.glo "is_bits").ok K = true from (c.fact 22 (f := fun K => (He.Fa.glo "is_bits").ok K)))) (fun _ => .nil) tk hr (qa_cons (q_var 1) qa_nil)))) (qw_or (qt_not (qt_val (d_call (df_is_bits_1 XH G c) (He.glo_ok XH G (show (He.Fa.glo "is_bits").ok K = true from (c.fact 22 (f := fun K => (He.Fa.glo "is_bits").ok K)))) (fun _ => .nil) tk hr (qa_cons (q_var 2) qa_nil)))) (qw_or1 (qt_cmp (op_eqD hu2) s_eq (q_var 2) (q_strL []))))))
    (qss_one (d_raise 11 2 (df_BadSet___init___3 XH G c) (oexB_ok (show oexB (He.ga K "BadSet") K = true from (c.fact 15 (f := fun K => oexB (He.ga K "BadSet") K)))) (xinB_ok (show xinB (He.ga K "BadSet") (He.ma K (He.ga K "BadSet") "__init__") K = true from (c.fact 23 (f := fun K => xinB (He.ga K "BadSet") (He.ma K (He.ga K "BadSet") "__init__") K)))) (He.glo_ok XH G (show (He.Fa.glo "BadSet").ok K = true from (c.fact 24 (f := fun K => (He.Fa.glo "BadSet").ok K)))) rfl (passes_call tk (fun _ _ _ _ h => h.elim)) tk hr rfl (qa_cons (q_var 1) (qa_cons (q_var 2) qa_nil))))
    qss_nil)
    (qss_cons (s_fld 0 35 0 (clok_PeriodicSet c) rfl rfl (by first | exact Or.inl rfl | exact Or.inr (Or.inl rfl)) (d_call (df_least_cycle_1 XH G c) (He.glo_ok XH G (show (He.Fa.glo "least_cycle").ok K = true from (c.fact 21 (f := fun K => (He.Fa.glo "least_cycle").ok K)))) (fun _ => .nil) tk hr (qa_cons (q_var 2) qa_nil)))
    (qss_one (s_fld 0 35 1 (clok_PeriodicSet c) rfl rfl (by first | exact Or.inl rfl | exact Or.inr (Or.inl rfl)) (d_call (df_least_prefix_2 XH G c) (He.glo_ok XH G (show (He.Fa.glo "least_prefix").ok K = true from (c.fact 20 (f := fun K => (He.Fa.glo "least_prefix").ok K)))) (fun _ => .nil) tk hr (qa_cons (q_var 1) (qa_cons (q_fld tab_cycle (tabok_cycle c) (q_var 0)) qa_nil)))))))
theorem df_PeriodicSet___init___3 {K : PySem.W.Frag} {h : Heap} {mg : Str → Option Value} (XH : K.In h) (G : h.Ns mainGlobals mg) (c : SaysX fb fn K) : DF K mg (He.ma K (He.ga K "PeriodicSet") "__init__") ["self", "prefix", "cycle"] [] 4 (spI K (tb K) 35 2 Φ_PeriodicSet___init__) := by
  obtain ⟨fd, Fd⟩ := c.says.def_ 18 (d := d_PeriodicSet___init__) rfl
  exact ⟨fd, [], Fd.kp, FunD.bindsN Fd (fun _ _ _ _ _ _ us hl => match us, hl with | [_, _, _], _ => rfl), .nil, fun P w base => ok_PeriodicSet___init__ XH G c Fd P w base⟩
abbrev N_check_fixed : List Str := ["period", "language"]
theorem sc_check_fixed : FnScope N_check_fixed ["period", "language"] d_check_fixed.scope := ⟨rfl, rfl, rfl, by decide +kernel, rfl, by decide +kernel, by decide +kernel⟩
theorem ok_check_fixed {K : PySem.W.Frag} {h : Heap} {mg : Str → Option Value} (XH : K.In h) (G : h.Ns mainGlobals mg) (c : SaysX fb fn K) {fd : FuncData}
    (Fd : FunD K d_check_fixed.name d_check_fixed.qual d_check_fixed.params d_check_fixed.body d_check_fixed.scope (d_check_fixed.dvs K) (d_check_fixed.kws K) (He.ga K "check_fixed") fd) (P : Program) (w : World) (base : Heap) :
    FnOk P w K mg base (L2.CX P w) 2 (He.ga K "check_fixed") fd ["period", "language"] (spD K (tb K) 2 Φ_check_fixed) := by
  have nd : List.Nodup N_check_fixed := sc_check_fixed.nd
  refine fnDD (T := tb K) (g := g_check_fixed) (N := N_check_fixed) (k := 1) Fd sc_check_fixed (by decide) (fun cdv A outer s H E hr tk po hu hu2 => ?_)
  unfold g_check_fixed
  exact (qss_cons (s_if (QW.t (qw_or (qt_not (qt_val (q_isi (q_var 1) (pe_glob (v := .ref (He.ga K "PeriodicSet")) (by rfl) (He.glo_ok XH G (show (He.Fa.glo "PeriodicSet").ok K = true from (c.fact 28 (f := fun K => (He.Fa.glo "PeriodicSet").ok K)))) rfl) (.own (He.ga K "PeriodicSet")) (tt_PeriodicSet_ok c) (He.free_ok XH G (show (He.Fa.free "isinstance").ok K = true from (c.fact 12 (f := fun K => (He.Fa.free "isinstance").ok K)))) (by decide +kernel)))) (qw_or1 (qt_not (qt_val (d_meth0 35 (df_PeriodicSet_is_infinite_1 XH G c) (He.cls_ok (show (He.Fa.cls "PeriodicSet").ok K = true from (c.fact 29 (f := fun K => (He.Fa.cls "PeriodicSet").ok K)))) (show ("is_infinite" : Str) ∉ clsF 35 from by decide +kernel) (He.meth_ok (show (He.Fa.meth "PeriodicSet" "is_infinite").ok K = true from (c.fact 30 (f := fun K => (He.Fa.meth "PeriodicSet" "is_infinite").ok K)))) (fun _ => .nil) tk hr (q_var 1)))))))
    (qss_one (s_raise0 6 (He.exc_ok (show (He.Fa.exc "BadFamily").ok K = true from (c.fact 26 (f := fun K => (He.Fa.exc "BadFamily").ok K)))) rfl tk rfl (He.glo_ok XH G (show (He.Fa.glo "BadFamily").ok K = true from (c.fact 27 (f := fun K => (He.Fa.glo "BadFamily").ok K))))))
    qss_nil)
    (qss_one (s_if (QW.t (qw_or (qt_cmp (op_neD hu2) s_ne (q_modI (q_var 0) (q_B1 call_lenA snd_len (by rfl) (He.free_ok XH G (show (He.Fa.free "len").ok K = true from (c.fact 0 (f := fun K => (He.Fa.free "len").ok K)))) (by decide +kernel) (q_fld tab_cycle (tabok_cycle c) (q_var 1)))) q_int) (qw_or1 (qt_cmp op_gt s_gt (q_B1 call_lenA snd_len (by rfl) (He.free_ok XH G (show (He.Fa.free "len").ok K = true from (c.fact 0 (f := fun K => (He.Fa.free "len").ok K)))) (by decide +kernel) (q_fld tab_prefix (tabok_prefix c) (q_var 1))) (q_globI (12) (by rfl) (He.int_ok XH G (show (He.Fa.int "LONGEST_PREFIX" (12)).ok K = true from (c.fact 25 (f := fun K => (He.Fa.int "LONGEST_PREFIX" (12)).ok K)))))))))
    (qss_one (s_raise0 6 (He.exc_ok (show (He.Fa.exc "BadFamily").ok K = true from (c.fact 26 (f := fun K => (He.Fa.exc "BadFamily").ok K)))) rfl tk rfl (He.glo_ok XH G (show (He.Fa.glo "BadFamily").ok K = true from (c.fact 27 (f := fun K => (He.Fa.glo "BadFamily").ok K))))))
    qss_nil)))
theorem df_check_fixed_2 {K : PySem.W.Frag} {h : Heap} {mg : Str → Option Value} (XH : K.In h) (G : h.Ns mainGlobals mg) (c : SaysX fb fn K) : DF K mg (He.ga K "check_fixed") ["period", "language"] [] 2 (spD K (tb K) 2 Φ_check_fixed) := by
  obtain ⟨fd, Fd⟩ := c.says.def_ 30 (d := d_check_fixed) rfl
  exact ⟨fd, [], Fd.kp, FunD.bindsN Fd (fun _ _ _ _ _ _ us hl => match us, hl with | [_, _], _ => rfl), .nil, fun P w base => ok_check_fixed XH G c Fd P w base⟩
abbrev N_checked_row : List Str := ["row", "period", "bits"]
theorem sc_checked_row : FnScope N_checked_row ["row", "period"] d_checked_row.scope := ⟨rfl, rfl, rfl, by decide +kernel, rfl, by decide +kernel, by decide +kernel⟩
theorem ok_checked_row {K : PySem.W.Frag} {h : Heap} {mg : Str → Option Value} (XH : K.In h) (G : h.Ns mainGlobals mg) (c : SaysX fb fn K) {fd : FuncData}
    (Fd : FunD K d_checked_row.name d_checked_row.qual d_checked_row.params d_checked_row.body d_checked_row.scope (d_checked_row.dvs K) (d_checked_row.kws K) (He.ga K "checked_row") fd) (P : Program) (w : World) (base : Heap) :
    FnOk P w K mg base (L2.CX P w) 2 (He.ga K "checked_row") fd ["row", "period"] (spD K (tb K) 2 Φ_checked_row) := by
  have nd : List.Nodup N_checked_row := sc_checked_row.nd
  refine fnDD (T := tb K) (g := g_checked_row) (N := N_checked_row) (k := 1) Fd sc_checked_row (by decide) (fun cdv A outer s H E hr tk po hu hu2 => ?_)
  unfold g_checked_row
  exact (qss_cons (s_if (QW.t (qw_or (qt_not (qt_val (q_isiT (q_var 0) (pe_bltn (by rfl) (He.free_ok XH G (show (He.Fa.free "list").ok K = true from (c.fact 4 (f := fun K => (He.Fa.free "list").ok K)))) (v := .ty "list") (u := .type "list") (by decide +kernel) rfl) (.ty "list") (pe_bltn (by rfl) (He.free_ok XH G (show (He.Fa.free "tuple").ok K = true from (c.fact 13 (f := fun K => (He.Fa.free "tuple").ok K)))) (v := .ty "tuple") (u := .type "tuple") (by decide +kernel) rfl) (.ty "tuple") (tt_list_tuple_ok c) (He.free_ok XH G (show (He.Fa.free "isinstance").ok K = true from (c.fact 12 (f := fun K => (He.Fa.free "isinstance").ok K)))) (by decide +kernel)))) (qw_or1 (qt_cmp (op_neD hu2) s_ne (q_B1 call_lenA snd_len (by rfl) (He.free_ok XH G (show (He.Fa.free "len").ok K = true from (c.fact 0 (f := fun K => (He.Fa.free "len").ok K)))) (by decide +kernel) (q_var 0)) q_int))))
    (qss_one (s_raise0 4 (He.exc_ok (show (He.Fa.exc "BadBand").ok K = true from (c.fact 31 (f := fun K => (He.Fa.exc "BadBand").ok K)))) rfl tk rfl (He.glo_ok XH G (show (He.Fa.glo "BadBand").ok K = true from (c.fact 32 (f := fun K => (He.Fa.glo "BadBand").ok K))))))
    qss_nil)
    (qss_cons (s_for po rfl (qi_all (q_var 0)) (g_name 2 nd rfl (by first | exact .inl rfl | exact .inr rfl))
    (qss_one (s_if (qt_not (qt_val (d_call (df_is_bits_1 XH G c) (He.glo_ok XH G (show (He.Fa.glo "is_bits").ok K = true from (c.fact 22 (f := fun K => (He.Fa.glo "is_bits").ok K)))) (fun _ => .nil) tk hr (qa_cons (q_var 2) qa_nil))))
    (qss_one (s_raise0 4 (He.exc_ok (show (He.Fa.exc "BadBand").ok K = true from (c.fact 31 (f := fun K => (He.Fa.exc "BadBand").ok K)))) rfl tk rfl (He.glo_ok XH G (show (He.Fa.glo "BadBand").ok K = true from (c.fact 32 (f := fun K => (He.Fa.glo "BadBand").ok K))))))
    qss_nil)))
    (qss_cons (s_if (QW.t (qw_or (qt_cmp (op_neD hu2) s_ne (q_B1 call_lenA snd_len (by rfl) (He.free_ok XH G (show (He.Fa.free "len").ok K = true from (c.fact 0 (f := fun K => (He.Fa.free "len").ok K)))) (by decide +kernel) (q_at hu (q_var 0) q_int)) (q_var 1)) (qw_or (qt_cmp (op_neD hu2) s_ne (q_B1 call_lenA snd_len (by rfl) (He.free_ok XH G (show (He.Fa.free "len").ok K = true from (c.fact 0 (f := fun K => (He.Fa.free "len").ok K)))) (by decide +kernel) (q_at hu (q_var 0) q_int)) q_int) (qw_or (qt_cmp (op_neD hu2) s_ne (q_B1 call_lenA snd_len (by rfl) (He.free_ok XH G (show (He.Fa.free "len").ok K = true from (c.fact 0 (f := fun K => (He.Fa.free "len").ok K)))) (by decide +kernel) (q_at hu (q_var 0) q_int)) (q_var 1)) (qw_or1 (qt_cmp op_ninA s_ninA (q_strL [49]) (q_at hu (q_var 0) q_int)))))))
    (qss_one (s_raise0 4 (He.exc_ok (show (He.Fa.exc "BadBand").ok K = true from (c.fact 31 (f := fun K => (He.Fa.exc "BadBand").ok K)))) rfl tk rfl (He.glo_ok XH G (show (He.Fa.glo "BadBand").ok K = true from (c.fact 32 (f := fun K => (He.Fa.glo "BadBand").ok K))))))
    qss_nil)
    (qss_one (s_ret (q_tup (qa_cons (q_at hu (q_var 0) q_int) (qa_cons (q_at hu (q_var 0) q_int) (qa_cons (q_at hu (q_var 0) q_int) qa_nil)))))))))
theorem df_checked_row_2 {K : PySem.W.Frag} {h : Heap} {mg : Str → Option Value} (XH : K.In h) (G : h.Ns mainGlobals mg) (c : SaysX fb fn K) : DF K mg (He.ga K "checked_row") ["row", "period"] [] 2 (spD K (tb K) 2 Φ_checked_row) := by
  obtain ⟨fd, Fd⟩ := c.says.def_ 26 (d := d_checked_row) rfl
  exact ⟨fd, [], Fd.kp, FunD.bindsN Fd (fun _ _ _ _ _ _ us hl => match us, hl with | [_, _], _ => rfl), .nil, fun P w base => ok_checked_row XH G c Fd P w base⟩
abbrev N_Band___init__ : List Str := ["self", "rows", "row"]
theorem sc_Band___init__ : FnScope N_Band___init__ ["self", "rows"] d_Band___init__.scope := ⟨rfl, rfl, rfl, by decide +kernel, rfl, by decide +kernel, by decide +kernel⟩
theorem ok_Band___init__ {K : PySem.W.Frag} {h : Heap} {mg : Str → Option Value} (XH : K.In h) (G : h.Ns mainGlobals mg) (c : SaysX fb fn K) {fd : FuncData}
    (Fd : FunD K d_Band___init__.name d_Band___init__.qual d_Band___init__.params d_Band___init__.body d_Band___init__.scope (d_Band___init__.dvs K) (d_Band___init__.kws K) (He.ma K (He.ga K "Band") "__init__") fd) (P : Program) (w : World) (base : Heap) :
    FnOk P w K mg base (L2.CX P w) 3 (He.ma K (He.ga K "Band") "__init__") fd ["self", "rows"] (spI K (tb K) 13 1 Φ_Band___init__) := by
  have nd : List.Nodup N_Band___init__ := sc_Band___init__.nd
  refine fnID 13 (T := tb K) (g := g_Band___init__) (N := N_Band___init__) (k := 2) Fd sc_Band___init__ (by decide) rfl (fun cdv A outer s H E hr tk po hu hu2 => ?_)
  unfold g_Band___init__
  exact (qss_cons (s_if (QW.t (qw_or (qt_not (qt_val (q_isiT (q_var 1) (pe_bltn (by rfl) (He.free_ok XH G (show (He.Fa.free "list").ok K = true from (c.fact 4 (f := fun K => (He.Fa.free "list").ok K)))) (v := .ty "list") (u := .type "list") (by decide +kernel) rfl) (.ty "list") (pe_bltn (by rfl) (He.free_ok XH G (show (He.Fa.free "tuple").ok K = true from (c.fact 13 (f := fun K => (He.Fa.free "tuple").ok K)))) (v := .ty "tuple") (u := .type "tuple") (by decide +kernel) rfl) (.ty "tuple") (tt_list_tuple_ok c) (He.free_ok XH G (show (He.Fa.free "isinstance").ok K = true from (c.fact 12 (f := fun K => (He.Fa.free "isinstance").ok K)))) (by decide +kernel)))) (qw_or1 (qt_not (qt_chain op_le op_le s_le s_le q_int (q_B1 call_lenA snd_len (by rfl) (He.free_ok XH G (show (He.Fa.free "len").ok K = true from (c.fact 0 (f := fun K => (He.Fa.free "len").ok K)))) (by decide +kernel) (q_var 1)) q_int)))))
    (qss_one (s_raise0 4 (He.exc_ok (show (He.Fa.exc "BadBand").ok K = true from (c.fact 31 (f := fun K => (He.Fa.exc "BadBand").ok K)))) rfl tk rfl (He.glo_ok XH G (show (He.Fa.glo "BadBand").ok K = true from (c.fact 32 (f := fun K => (He.Fa.glo "BadBand").ok K))))))
    qss_nil)
    (qss_cons (s_fld 0 13 0 (clok_Band c) rfl rfl (by first | exact Or.inl rfl | exact Or.inr (Or.inl rfl)) (q_B1 call_lenA snd_len (by rfl) (He.free_ok XH G (show (He.Fa.free "len").ok K = true from (c.fact 0 (f := fun K => (He.Fa.free "len").ok K)))) (by decide +kernel) (q_var 1)))
    (qss_one (s_fld 0 13 1 (clok_Band c) rfl rfl (by first | exact Or.inl rfl | exact Or.inr (Or.inl rfl)) (q_T1 call_tuple_of snd_tuple (by rfl) (He.free_ok XH G (show (He.Fa.free "tuple").ok K = true from (c.fact 13 (f := fun K => (He.Fa.free "tuple").ok K)))) (by decide +kernel) (q_lc [("row", 2)] rfl nd (qi_all (q_var 1)) (blkOk_of (N := N_Band___init__) (sc := d_Band___init__.scope) (by decide +kernel)) (by decide) (fun s_ H_ C_ cl_ fp_ => (g_name 2 nd rfl (by first | exact .inl rfl | exact .inr rfl))) (fun s_ H_ C_ cl_ fp_ => qts_nil) (fun s_ H_ C_ cl_ fp_ => (d_call (df_checked_row_2 XH G c) (He.glo_ok XH G (show (He.Fa.glo "checked_row").ok K = true from (c.fact 33 (f := fun K => (He.Fa.glo "checked_row").ok K)))) (fun _ => .nil) takes0 hr (qa_cons (q_var 2) (qa_cons (q_B1 call_lenA snd_len (by rfl) (He.free_ok XH G (show (He.Fa.free "len").ok K = true from (c.fact 0 (f := fun K => (He.Fa.free "len").ok K)))) (by decide +kernel) (q_var 1)) qa_nil))))))))))
theorem df_Band___init___2 {K : PySem.W.Frag} {h : Heap} {mg : Str → Option Value} (XH : K.In h) (G : h.Ns mainGlobals mg) (c : SaysX fb fn K) : DF K mg (He.ma K (He.ga K "Band") "__init__") ["self", "rows"] [] 3 (spI K (tb K) 13 1 Φ_Band___init__) := by
  obtain ⟨fd, Fd⟩ := c.says.def_ 27 (d := d_Band___init__) rfl
  exact ⟨fd, [], Fd.kp, FunD.bindsN Fd (fun _ _ _ _ _ _ us hl => match us, hl with | [_, _], _ => rfl), .nil, fun P w base => ok_Band___init__ XH G c Fd P w base⟩
abbrev N_check_parts : List Str := ["period", "fixed", "bands", "language", "band"]
theorem sc_check_parts : FnScope N_check_parts ["period", "fixed", "bands"] d_check_parts.scope := ⟨rfl, rfl, rfl, by decide +kernel, rfl, by decide +kernel, by decide +kernel⟩
theorem ok_check_parts {K : PySem.W.Frag} {h : Heap} {mg : Str → Option Value} (XH : K.In h) (G : h.Ns mainGlobals mg) (c : SaysX fb fn K) {fd : FuncData}
    (Fd : FunD K d_check_parts.name d_check_parts.qual d_check_parts.params d_check_parts.body d_check_parts.scope (d_check_parts.dvs K) (d_check_parts.kws K) (He.ga K "check_parts") fd) (P : Program) (w : World) (base : Heap) :
    FnOk P w K mg base (L2.CX P w) 3 (He.ga K "check_parts") fd ["period", "fixed", "bands"] (spD K (tb K) 3 Φ_check_parts) := by
  have nd : List.Nodup N_check_parts := sc_check_parts.nd
  refine fnDD (T := tb K) (g := g_check_parts) (N := N_check_parts) (k := 2) Fd sc_check_parts (by decide) (fun cdv A outer s H E hr tk po hu hu2 => ?_)
  unfold g_check_parts
  exact (qss_cons (s_if (QW.t (qw_or (qt_not (qt_val (q_isi (q_var 0) (pe_bltn (by rfl) (He.free_ok XH G (show (He.Fa.free "int").ok K = true from (c.fact 2 (f := fun K => (He.Fa.free "int").ok K)))) (v := .ty "int") (u := .type "int") (by decide +kernel) rfl) (.ty "int") (tt_int_ok c) (He.free_ok XH G (show (He.Fa.free "isinstance").ok K = true from (c.fact 12 (f := fun K => (He.Fa.free "isinstance").ok K)))) (by decide +kernel)))) (qw_or (qt_val (q_isi (q_var 0) (pe_bltn (by rfl) (He.free_ok XH G (show (He.Fa.free "bool").ok K = true from (c.fact 38 (f := fun K => (He.Fa.free "bool").ok K)))) (v := .ty "bool") (u := .type "bool") (by decide +kernel) rfl) (.ty "bool") (tt_bool_ok c) (He.free_ok XH G (show (He.Fa.free "isinstance").ok K = true from (c.fact 12 (f := fun K => (He.Fa.free "isinstance").ok K)))) (by decide +kernel))) (qw_or1 (qt_not (qt_chain op_le op_le s_le s_le q_int (q_var 0) (q_globI (4) (by rfl) (He.int_ok XH G (show (He.Fa.int "MOST_PERIOD" (4)).ok K = true from (c.fact 39 (f := fun K => (He.Fa.int "MOST_PERIOD" (4)).ok K)))))))))))
    (qss_one (s_raise0 6 (He.exc_ok (show (He.Fa.exc "BadFamily").ok K = true from (c.fact 26 (f := fun K => (He.Fa.exc "BadFamily").ok K)))) rfl tk rfl (He.glo_ok XH G (show (He.Fa.glo "BadFamily").ok K = true from (c.fact 27 (f := fun K => (He.Fa.glo "BadFamily").ok K))))))
    qss_nil)
    (qss_cons (s_if (QW.t (qw_or (qt_not (qt_val (q_isiT (q_var 1) (pe_bltn (by rfl) (He.free_ok XH G (show (He.Fa.free "list").ok K = true from (c.fact 4 (f := fun K => (He.Fa.free "list").ok K)))) (v := .ty "list") (u := .type "list") (by decide +kernel) rfl) (.ty "list") (pe_bltn (by rfl) (He.free_ok XH G (show (He.Fa.free "tuple").ok K = true from (c.fact 13 (f := fun K => (He.Fa.free "tuple").ok K)))) (v := .ty "tuple") (u := .type "tuple") (by decide +kernel) rfl) (.ty "tuple") (tt_list_tuple_ok c) (He.free_ok XH G (show (He.Fa.free "isinstance").ok K = true from (c.fact 12 (f := fun K => (He.Fa.free "isinstance").ok K)))) (by decide +kernel)))) (qw_or1 (qt_not (qt_val (q_isiT (q_var 2) (pe_bltn (by rfl) (He.free_ok XH G (show (He.Fa.free "list").ok K = true from (c.fact 4 (f := fun K => (He.Fa.free "list").ok K)))) (v := .ty "list") (u := .type "list") (by decide +kernel) rfl) (.ty "list") (pe_bltn (by rfl) (He.free_ok XH G (show (He.Fa.free "tuple").ok K = true from (c.fact 13 (f := fun K => (He.Fa.free "tuple").ok K)))) (v := .ty "tuple") (u := .type "tuple") (by decide +kernel) rfl) (.ty "tuple") (tt_list_tuple_ok c) (He.free_ok XH G (show (He.Fa.free "isinstance").ok K = true from (c.fact 12 (f := fun K => (He.Fa.free "isinstance").ok K)))) (by decide +kernel)))))))
    (qss_one (s_raise0 6 (He.exc_ok (show (He.Fa.exc "BadFamily").ok K = true from (c.fact 26 (f := fun K => (He.Fa.exc "BadFamily").ok K)))) rfl tk rfl (He.glo_ok XH G (show (He.Fa.glo "BadFamily").ok K = true from (c.fact 27 (f := fun K => (He.Fa.glo "BadFamily").ok K))))))
    qss_nil)
    (qss_cons (s_if (QW.t (qw_or (qt_cmp op_gt s_gt (q_B1 call_lenA snd_len (by rfl) (He.free_ok XH G (show (He.Fa.free "len").ok K = true from (c.fact 0 (f := fun K => (He.Fa.free "len").ok K)))) (by decide +kernel) (q_var 1)) (q_globI (6) (by rfl) (He.int_ok XH G (show (He.Fa.int "MOST_FIXED" (6)).ok K = true from (c.fact 36 (f := fun K => (He.Fa.int "MOST_FIXED" (6)).ok K)))))) (qw_or (qt_cmp op_gt s_gt (q_B1 call_lenA snd_len (by rfl) (He.free_ok XH G (show (He.Fa.free "len").ok K = true from (c.fact 0 (f := fun K => (He.Fa.free "len").ok K)))) (by decide +kernel) (q_var 2)) (q_globI (2) (by rfl) (He.int_ok XH G (show (He.Fa.int "MOST_BANDS" (2)).ok K = true from (c.fact 37 (f := fun K => (He.Fa.int "MOST_BANDS" (2)).ok K)))))) (qw_or1 (qt_cmp (op_eqD hu2) s_eq (q_plus (q_B1 call_lenA snd_len (by rfl) (He.free_ok XH G (show (He.Fa.free "len").ok K = true from (c.fact 0 (f := fun K => (He.Fa.free "len").ok K)))) (by decide +kernel) (q_var 1)) (q_B1 call_lenA snd_len (by rfl) (He.free_ok XH G (show (He.Fa.free "len").ok K = true from (c.fact 0 (f := fun K => (He.Fa.free "len").ok K)))) (by decide +kernel) (q_var 2))) q_int)))))
    (qss_one (s_raise0 6 (He.exc_ok (show (He.Fa.exc "BadFamily").ok K = true from (c.fact 26 (f := fun K => (He.Fa.exc "BadFamily").ok K)))) rfl tk rfl (He.glo_ok XH G (show (He.Fa.glo "BadFamily").ok K = true from (c.fact 27 (f := fun K => (He.Fa.glo "BadFamily").ok K))))))
    qss_nil)
    (qss_cons (s_for po rfl (qi_all (q_var 1)) (g_name 3 nd rfl (by first | exact .inl rfl | exact .inr rfl))
    (qss_one (s_drop (d_call (df_check_fixed_2 XH G c) (He.glo_ok XH G (show (He.Fa.glo "check_fixed").ok K = true from (c.fact 35 (f := fun K => (He.Fa.glo "check_fixed").ok K)))) (fun _ => .nil) tk hr (qa_cons (q_var 0) (qa_cons (q_var 3) qa_nil))))))
    (qss_one (s_for po rfl (qi_all (q_var 2)) (g_name 4 nd rfl (by first | exact .inl rfl | exact .inr rfl))
    (qss_one (s_if (QW.t (qw_or (qt_not (qt_val (q_isi (q_var 4) (pe_glob (v := .ref (He.ga K "Band")) (by rfl) (He.glo_ok XH G (show (He.Fa.glo "Band").ok K = true from (c.fact 34 (f := fun K => (He.Fa.glo "Band").ok K)))) rfl) (.own (He.ga K "Band")) (tt_Band_ok c) (He.free_ok XH G (show (He.Fa.free "isinstance").ok K = true from (c.fact 12 (f := fun K => (He.Fa.free "isinstance").ok K)))) (by decide +kernel)))) (qw_or1 (qt_cmp (op_neD hu2) s_ne (q_fld tab_period (tabok_period c) (q_var 4)) (q_var 0)))))
    (qss_one (s_raise0 6 (He.exc_ok (show (He.Fa.exc "BadFamily").ok K = true from (c.fact 26 (f := fun K => (He.Fa.exc "BadFamily").ok K)))) rfl tk rfl (He.glo_ok XH G (show (He.Fa.glo "BadFamily").ok K = true from (c.fact 27 (f := fun K => (He.Fa.glo "BadFamily").ok K))))))
    qss_nil))))))))
theorem df_check_parts_3 {K : PySem.W.Frag} {h : Heap} {mg : Str → Option Value} (XH : K.In h) (G : h.Ns mainGlobals mg) (c : SaysX fb fn K) : DF K mg (He.ga K "check_parts") ["period", "fixed", "bands"] [] 3 (spD K (tb K) 3 Φ_check_parts) := by
  obtain ⟨fd, Fd⟩ := c.says.def_ 31 (d := d_check_parts) rfl
  exact ⟨fd, [], Fd.kp, FunD.bindsN Fd (fun _ _ _ _ _ _ us hl => match us, hl with | [_, _, _], _ => rfl), .nil, fun P w base => ok_check_parts XH G c Fd P w base⟩
abbrev N_Family___init__ : List Str := ["self", "period", "fixed", "bands"]
theorem sc_Family___init__ : FnScope N_Family___init__ ["self", "period", "fixed", "bands"] d_Family___init__.scope := ⟨rfl, rfl, rfl, by decide +kernel, rfl, by decide +kernel, by decide +kernel⟩
theorem ok_Family___init__ {K : PySem.W.Frag} {h : Heap} {mg : Str → Option Value} (XH : K.In h) (G : h.Ns mainGlobals mg) (c : SaysX fb fn K) {fd : FuncData}
    (Fd : FunD K d_Family___init__.name d_Family___init__.qual d_Family___init__.params d_Family___init__.body d_Family___init__.scope (d_Family___init__.dvs K) (d_Family___init__.kws K) (He.ma K (He.ga K "Family") "__init__") fd) (P : Program) (w : World) (base : Heap) :
    FnOk P w K mg base (L2.CX P w) 4 (He.ma K (He.ga K "Family") "__init__") fd ["self", "period", "fixed", "bands"] (spI K (tb K) 18 3 Φ_Family___init__) := by
  have nd : List.Nodup N_Family___init__ := sc_Family___init__.nd
  refine fnID 18 (T := tb K) (g := g_Family___init__) (N := N_Family___init__) (k := 3) Fd sc_Family___init__ (by decide) rfl (fun cdv A outer s H E hr tk po hu hu2 => ?_)
  unfold g_Family___init__
  exact (qss_cons (s_drop (d_call (df_check_parts_3 XH G c) (He.glo_ok XH G (show (He.Fa.glo "check_parts").ok K = true from (c.fact 40 (f := fun K => (He.Fa.glo "check_parts").ok K)))) (fun _ => .nil) tk hr (qa_cons (q_var 1) (qa_cons (q_var 2) (qa_cons (q_var 3) qa_nil)))))
    (qss_cons (s_fld 0 18 0 (clok_Family c) rfl rfl (by first | exact Or.inl rfl | exact Or.inr (Or.inl rfl)) (q_var 1))
    (qss_cons (s_fld 0 18 1 (clok_Family c) rfl rfl (by first | exact Or.inl rfl | exact Or.inr (Or.inl rfl)) (q_T1 call_tuple_of snd_tuple (by rfl) (He.free_ok XH G (show (He.Fa.free "tuple").ok K = true from (c.fact 13 (f := fun K => (He.Fa.free "tuple").ok K)))) (by decide +kernel) (q_var 2)))
    (qss_one (s_fld 0 18 2 (clok_Family c) rfl rfl (by first | exact Or.inl rfl | exact Or.inr (Or.inl rfl)) (q_T1 call_tuple_of snd_tuple (by rfl) (He.free_ok XH G (show (He.Fa.free "tuple").ok K = true from (c.fact 13 (f := fun K => (He.Fa.free "tuple").ok K)))) (by decide +kernel) (q_var 3)))))))
theorem df_Family___init___4 {K : PySem.W.Frag} {h : Heap} {mg : Str → Option Value} (XH : K.In h) (G : h.Ns mainGlobals mg) (c : SaysX fb fn K) : DF K mg (He.ma K (He.ga K "Family") "__init__") ["self", "period", "fixed", "bands"] [] 4 (spI K (tb K) 18 3 Φ_Family___init__) := by
  obtain ⟨fd, Fd⟩ := c.says.def_ 32 (d := d_Family___init__) rfl
  exact ⟨fd, [], Fd.kp, FunD.bindsN Fd (fun _ _ _ _ _ _ us hl => match us, hl with | [_, _, _, _], _ => rfl), .nil, fun P w base => ok_Family___init__ XH G c Fd P w base⟩
abbrev N__law_build : List Str := ["data", "fixed", "line", "row", "band"]
theorem sc__law_build : FnScope N__law_build ["data"] d__law_build.scope := ⟨rfl, rfl, rfl, by decide +kernel, rfl, by decide +kernel, by decide +kernel⟩
theorem ok__law_build {K : PySem.W.Frag} {h : Heap} {mg : Str → Option Value} (XH : K.In h) (G : h.Ns mainGlobals mg) (c : SaysX fb fn K) {fd : FuncData}
    (Fd : FunD K d__law_build.name d__law_build.qual d__law_build.params d__law_build.body d__law_build.scope (d__law_build.dvs K) (d__law_build.kws K) (He.ga K "_law_build") fd) (P : Program) (w : World) (base : Heap) :
    FnOk P w K mg base (L2.CX P w) 6 (He.ga K "_law_build") fd ["data"] (spD K (tb K) 1 Φ__law_build) := by
  have nd : List.Nodup N__law_build := sc__law_build.nd
  refine fnDD (T := tb K) (g := g__law_build) (N := N__law_build) (k := 5) Fd sc__law_build (by decide) (fun cdv A outer s H E hr tk po hu hu2 => ?_)
  unfold g__law_build
  exact (qss_cons (s_lcA 1 [("line", 2)] rfl nd rfl rfl (by rfl) (qi_all (q_at hu (q_var 0) q_int)) (blkOk_of (N := N__law_build) (sc := d__law_build.scope) (by decide +kernel)) (by decide) (fun s_ H_ C_ cl_ fp_ => (g_name 2 nd rfl (by first | exact .inl rfl | exact .inr rfl))) (fun s_ H_ C_ cl_ fp_ => qts_nil) (fun s_ H_ C_ cl_ fp_ => (d_new 35 (df_PeriodicSet___init___3 XH G c) (He.mkr_ok (show (He.Fa.mkr "PeriodicSet").ok K = true from (c.fact 44 (f := fun K => (He.Fa.mkr "PeriodicSet").ok K)))) (He.glo_ok XH G (show (He.Fa.glo "PeriodicSet").ok K = true from (c.fact 28 (f := fun K => (He.Fa.glo "PeriodicSet").ok K)))) (fun _ => .nil) takes0 hr (qa_cons (q_at hu (q_var 2) q_int) (qa_cons (q_at hu (q_var 2) q_int) qa_nil)))))
    (qss_one (s_ret (d_new 18 (df_Family___init___4 XH G c) (He.mkr_ok (show (He.Fa.mkr "Family").ok K = true from (c.fact 42 (f := fun K => (He.Fa.mkr "Family").ok K)))) (He.glo_ok XH G (show (He.Fa.glo "Family").ok K = true from (c.fact 43 (f := fun K => (He.Fa.glo "Family").ok K)))) (fun _ => .nil) tk hr (qa_cons (q_at hu (q_var 0) q_int) (qa_cons (q_var 1) (qa_cons (q_lc [("band", 4)] rfl nd (qi_all (q_at hu (q_var 0) q_int)) (blkOk_of (N := N__law_build) (sc := d__law_build.scope) (by decide +kernel)) (by decide) (fun s_ H_ C_ cl_ fp_ => (g_name 4 nd rfl (by first | exact .inl rfl | exact .inr rfl))) (fun s_ H_ C_ cl_ fp_ => qts_nil) (fun s_ H_ C_ cl_ fp_ => (d_new 13 (df_Band___init___2 XH G c) (He.mkr_ok (show (He.Fa.mkr "Band").ok K = true from (c.fact 41 (f := fun K => (He.Fa.mkr "Band").ok K)))) (He.glo_ok XH G (show (He.Fa.glo "Band").ok K = true from (c.fact 34 (f := fun K => (He.Fa.glo "Band").ok K)))) (fun _ => .nil) takes0 hr (qa_cons (q_lc [("row", 3)] rfl nd (qi_all (q_var 4)) (blkOk_in (N := N__law_build) (by decide +kernel)) (by decide) (fun s_ H_ C_ cl_ fp_ => (g_name 3 nd rfl (by first | exact .inl rfl | exact .inr rfl))) (fun s_ H_ C_ cl_ fp_ => qts_nil) (fun s_ H_ C_ cl_ fp_ => (q_tup (qa_cons (q_at hu (q_var 3) q_int) (qa_cons (q_at hu (q_var 3) q_int) (qa_cons (q_at hu (q_var 3) q_int) qa_nil)))))) qa_nil)))) qa_nil)))))))
theorem df__law_build_1 {K : PySem.W.Frag} {h : Heap} {mg : Str → Option Value} (XH : K.In h) (G : h.Ns mainGlobals mg) (c : SaysX fb fn K) : DF K mg (He.ga K "_law_build") ["data"] [] 6 (spD K (tb K) 1 Φ__law_build) := by
  obtain ⟨fd, Fd⟩ := c.says.def_ 48 (d := d__law_build) rfl
  exact ⟨fd, [], Fd.kp, FunD.bindsN Fd (fun _ _ _ _ _ _ us hl => match us, hl with | [_], _ => rfl), .nil, fun P w base => ok__law_build XH G c Fd P w base⟩
abbrev N__law_line : List Str := ["data", "seat", "amount", "n", "row", "prefix", "x"]
theorem sc__law_line : FnScope N__law_line ["data", "seat"] d__law_line.scope := ⟨rfl, rfl, rfl, by decide +kernel, rfl, by decide +kernel, by decide +kernel⟩
theorem ok__law_line {K : PySem.W.Frag} {h : Heap} {mg : Str → Option Value} (XH : K.In h) (G : h.Ns mainGlobals mg) (c : SaysX fb fn K) {fd : FuncData}
    (Fd : FunD K d__law_line.name d__law_line.qual d__law_line.params d__law_line.body d__law_line.scope (d__law_line.dvs K) (d__law_line.kws K) (He.ga K "_law_line") fd) (P : Program) (w : World) (base : Heap) :
    FnOk P w K mg base (L2.CX P w) 1 (He.ga K "_law_line") fd ["data", "seat"] (spD K (tb K) 2 Φ__law_line) := by
  have nd : List.Nodup N__law_line := sc__law_line.nd
  refine fnDD (T := tb K) (g := g__law_line) (N := N__law_line) (k := 0) Fd sc__law_line (by decide) (fun cdv A outer s H E hr tk po hu hu2 => ?_)
  unfold g__law_line
  exact (qss_cons (s_asg 2 nd rfl (by first | exact .inl rfl | exact .inr rfl) (q_B1 call_lenA snd_len (by rfl) (He.free_ok XH G (show (He.Fa.free "len").ok K = true from (c.fact 0 (f := fun K => (He.Fa.free "len").ok K)))) (by decide +kernel) (q_at hu (q_var 0) q_int)))
    (qss_cons (s_if (qt_cmp op_lt s_lt (q_var 1) (q_var 2))
    (qss_one (s_ret (q_lst (qa_cons (q_at hu (q_at hu (q_at hu (q_var 0) q_int) (q_var 1)) q_int) (qa_cons (q_at hu (q_at hu (q_at hu (q_var 0) q_int) (q_var 1)) q_int) qa_nil)))))
    qss_nil)
    (qss_cons (s_asg 3 nd rfl (by first | exact .inl rfl | exact .inr rfl) (q_divI (q_subI (q_var 1) (q_var 2)) (q_B1 call_lenA snd_len (by rfl) (He.free_ok XH G (show (He.Fa.free "len").ok K = true from (c.fact 0 (f := fun K => (He.Fa.free "len").ok K)))) (by decide +kernel) (q_at hu (q_var 0) q_int))))
    (qss_cons (s_asg 4 nd rfl (by first | exact .inl rfl | exact .inr rfl) (q_at hu (q_at hu (q_at hu (q_var 0) q_int) (q_modI (q_T1 call_int1 snd_int (by rfl) (He.free_ok XH G (show (He.Fa.free "int").ok K = true from (c.fact 2 (f := fun K => (He.Fa.free "int").ok K)))) (by decide +kernel) (q_subI (q_var 1) (q_var 2))) (q_B1 call_lenA snd_len (by rfl) (He.free_ok XH G (show (He.Fa.free "len").ok K = true from (c.fact 0 (f := fun K => (He.Fa.free "len").ok K)))) (by decide +kernel) (q_at hu (q_var 0) q_int)))) (q_modI (q_T1 call_int1 snd_int (by rfl) (He.free_ok XH G (show (He.Fa.free "int").ok K = true from (c.fact 2 (f := fun K => (He.Fa.free "int").ok K)))) (by decide +kernel) (q_var 3)) (q_at hu (q_var 0) q_int))))
    (qss_cons (s_asg 5 nd rfl (by first | exact .inl rfl | exact .inr rfl) (q_plus (q_join (q_strL []) (q_lc [("x", 6)] rfl nd (qi_r1 (by rfl) (He.free_ok XH G (show (He.Fa.free "range").ok K = true from (c.fact 1 (f := fun K => (He.Fa.free "range").ok K)))) (q_var 3)) (blkOk_of (N := N__law_line) (sc := d__law_line.scope) (by decide +kernel)) (by decide) (fun s_ H_ C_ cl_ fp_ => (g_name 6 nd rfl (by first | exact .inl rfl | exact .inr rfl))) (fun s_ H_ C_ cl_ fp_ => qts_nil) (fun s_ H_ C_ cl_ fp_ => (q_at hu (q_at hu (q_var 4) q_int) (q_modI (q_T1 call_int1 snd_int (by rfl) (He.free_ok XH G (show (He.Fa.free "int").ok K = true from (c.fact 2 (f := fun K => (He.Fa.free "int").ok K)))) (by decide +kernel) (q_var 6)) (q_at hu (q_var 0) q_int)))))) (q_at hu (q_var 4) q_int)))
    (qss_one (s_ret (q_lst (qa_cons (q_var 5) (qa_cons (q_at hu (q_var 4) q_int) qa_nil))))))))))
theorem df__law_line_2 {K : PySem.W.Frag} {h : Heap} {mg : Str → Option Value} (XH : K.In h) (G : h.Ns mainGlobals mg) (c : SaysX fb fn K) : DF K mg (He.ga K "_law_line") ["data", "seat"] [] 1 (spD K (tb K) 2 Φ__law_line) := by
  obtain ⟨fd, Fd⟩ := c.says.def_ 41 (d := d__law_line) rfl
  exact ⟨fd, [], Fd.kp, FunD.bindsN Fd (fun _ _ _ _ _ _ us hl => match us, hl with | [_, _], _ => rfl), .nil, fun P w base => ok__law_line XH G c Fd P w base⟩
abbrev N__law_in : List Str := ["line", "x"]
theorem sc__law_in : FnScope N__law_in ["line", "x"] d__law_in.scope := ⟨rfl, rfl, rfl, by decide +kernel, rfl, by decide +kernel, by decide +kernel⟩
theorem ok__law_in {K : PySem.W.Frag} {h : Heap} {mg : Str → Option Value} (XH : K.In h) (G : h.Ns mainGlobals mg) (c : SaysX fb fn K) {fd : FuncData}
    (Fd : FunD K d__law_in.name d__law_in.qual d__law_in.params d__law_in.body d__law_in.scope (d__law_in.dvs K) (d__law_in.kws K) (He.ga K "_law_in") fd) (P : Program) (w : World) (base : Heap) :
    FnOk P w K mg base (L2.CX P w) 1 (He.ga K "_law_in") fd ["line", "x"] (spD K (tb K) 2 Φ__law_in) := by
  have nd : List.Nodup N__law_in := sc__law_in.nd
  refine fnDD (T := tb K) (g := g__law_in) (N := N__law_in) (k := 0) Fd sc__law_in (by decide) (fun cdv A outer s H E hr tk po hu hu2 => ?_)
  unfold g__law_in
  exact (qss_cons (s_if (qt_cmp op_lt s_lt (q_var 1) (q_B1 call_lenA snd_len (by rfl) (He.free_ok XH G (show (He.Fa.free "len").ok K = true from (c.fact 0 (f := fun K => (He.Fa.free "len").ok K)))) (by decide +kernel) (q_at hu (q_var 0) q_int)))
    (qss_one (s_ret (q_cmp (op_eqD hu2) s_eq (q_at hu (q_at hu (q_var 0) q_int) (q_var 1)) (q_strL [49]))))
    qss_nil)
    (qss_one (s_ret (q_cmp (op_eqD hu2) s_eq (q_at hu (q_at hu (q_var 0) q_int) (q_modI (q_T1 call_int1 snd_int (by rfl) (He.free_ok XH G (show (He.Fa.free "int").ok K = true from (c.fact 2 (f := fun K => (He.Fa.free "int").ok K)))) (by decide +kernel) (q_var 1)) (q_B1 call_lenA snd_len (by rfl) (He.free_ok XH G (show (He.Fa.free "len").ok K = true from (c.fact 0 (f := fun K => (He.Fa.free "len").ok K)))) (by decide +kernel) (q_at hu (q_var 0) q_int)))) (q_strL [49])))))
theorem df__law_in_2 {K : PySem.W.Frag} {h : Heap} {mg : Str → Option Value} (XH : K.In h) (G : h.Ns mainGlobals mg) (c : SaysX fb fn K) : DF K mg (He.ga K "_law_in") ["line", "x"] [] 1 (spD K (tb K) 2 Φ__law_in) := by
  obtain ⟨fd, Fd⟩ := c.says.def_ 40 (d := d__law_in) rfl
  exact ⟨fd, [], Fd.kp, FunD.bindsN Fd (fun _ _ _ _ _ _ us hl => match us, hl with | [_, _], _ => rfl), .nil, fun P w base => ok__law_in XH G c Fd P w base⟩
abbrev N__law_parting : List Str := ["data", "seat", "line", "latest", "other", "mine", "first", "x"]
theorem sc__law_parting : FnScope N__law_parting ["data", "seat"] d__law_parting.scope := ⟨rfl, rfl, rfl, by decide +kernel, rfl, by decide +kernel, by decide +kernel⟩
theorem ok__law_parting {K : PySem.W.Frag} {h : Heap} {mg : Str → Option Value} (XH : K.In h) (G : h.Ns mainGlobals mg) (c : SaysX fb fn K) {fd : FuncData}
    (Fd : FunD K d__law_parting.name d__law_parting.qual d__law_parting.params d__law_parting.body d__law_parting.scope (d__law_parting.dvs K) (d__law_parting.kws K) (He.ga K "_law_parting") fd) (P : Program) (w : World) (base : Heap) :
    FnOk P w K mg base (L2.CX P w) 2 (He.ga K "_law_parting") fd ["data", "seat"] (spD K (tb K) 2 Φ__law_parting) := by
  have nd : List.Nodup N__law_parting := sc__law_parting.nd
  refine fnDD (T := tb K) (g := g__law_parting) (N := N__law_parting) (k := 1) Fd sc__law_parting (by decide) (fun cdv A outer s H E hr tk po hu hu2 => ?_)
  unfold g__law_parting
  exact (qss_cons (s_asg 2 nd rfl (by first | exact .inl rfl | exact .inr rfl) (d_call (df__law_line_2 XH G c) (He.glo_ok XH G (show (He.Fa.glo "_law_line").ok K = true from (c.fact 46 (f := fun K => (He.Fa.glo "_law_line").ok K)))) (fun _ => .nil) tk hr (qa_cons (q_var 0) (qa_cons (q_var 1) qa_nil))))
    (qss_cons (s_asg 3 nd rfl (by first | exact .inl rfl | exact .inr rfl) (q_neg q_int))
    (qss_cons (s_for po rfl (qi_r1 (by rfl) (He.free_ok XH G (show (He.Fa.free "range").ok K = true from (c.fact 1 (f := fun K => (He.Fa.free "range").ok K)))) (q_var 1)) (g_name 4 nd rfl (by first | exact .inl rfl | exact .inr rfl))
    (qss_cons (s_asg 5 nd rfl (by first | exact .inl rfl | exact .inr rfl) (d_call (df__law_line_2 XH G c) (He.glo_ok XH G (show (He.Fa.glo "_law_line").ok K = true from (c.fact 46 (f := fun K => (He.Fa.glo "_law_line").ok K)))) (fun _ => .nil) tk hr (qa_cons (q_var 0) (qa_cons (q_var 4) qa_nil))))
    (qss_cons (s_asg 6 nd rfl (by first | exact .inl rfl | exact .inr rfl) (q_sl (q_lc [("x", 7)] rfl nd (qi_r1 (by rfl) (He.free_ok XH G (show (He.Fa.free "range").ok K = true from (c.fact 1 (f := fun K => (He.Fa.free "range").ok K)))) (q_plus (q_B2 (call_max2 rfl) snd_max2 (by rfl) (He.free_ok XH G (show (He.Fa.free "max").ok K = true from (c.fact 5 (f := fun K => (He.Fa.free "max").ok K)))) (by decide +kernel) (q_B1 call_lenA snd_len (by rfl) (He.free_ok XH G (show (He.Fa.free "len").ok K = true from (c.fact 0 (f := fun K => (He.Fa.free "len").ok K)))) (by decide +kernel) (q_at hu (q_var 2) q_int)) (q_B1 call_lenA snd_len (by rfl) (He.free_ok XH G (show (He.Fa.free "len").ok K = true from (c.fact 0 (f := fun K => (He.Fa.free "len").ok K)))) (by decide +kernel) (q_at hu (q_var 5) q_int))) q_int)) (blkOk_of (N := N__law_parting) (sc := d__law_parting.scope) (by decide +kernel)) (by decide) (fun s_ H_ C_ cl_ fp_ => (g_name 7 nd rfl (by first | exact .inl rfl | exact .inr rfl))) (fun s_ H_ C_ cl_ fp_ => (qts_one (qt_cmp (op_neD hu2) s_ne (d_call (df__law_in_2 XH G c) (He.glo_ok XH G (show (He.Fa.glo "_law_in").ok K = true from (c.fact 45 (f := fun K => (He.Fa.glo "_law_in").ok K)))) (fun _ => .nil) takes0 hr (qa_cons (q_var 2) (qa_cons (q_var 7) qa_nil))) (d_call (df__law_in_2 XH G c) (He.glo_ok XH G (show (He.Fa.glo "_law_in").ok K = true from (c.fact 45 (f := fun K => (He.Fa.glo "_law_in").ok K)))) (fun _ => .nil) takes0 hr (qa_cons (q_var 5) (qa_cons (q_var 7) qa_nil)))))) (fun s_ H_ C_ cl_ fp_ => (q_var 7))) qo_none (qo_some q_int)))
    (qss_one (s_asg 3 nd rfl (by first | exact .inl rfl | exact .inr rfl) (q_B1 (cr_max rfl) snd_maxL (by rfl) (He.free_ok XH G (show (He.Fa.free "max").ok K = true from (c.fact 5 (f := fun K => (He.Fa.free "max").ok K)))) (by decide +kernel) (q_plus (q_lst (qa_cons (q_var 3) qa_nil)) (q_var 6))))))))
    (qss_one (s_ret (q_var 3))))))
theorem df__law_parting_2 {K : PySem.W.Frag} {h : Heap} {mg : Str → Option Value} (XH : K.In h) (G : h.Ns mainGlobals mg) (c : SaysX fb fn K) : DF K mg (He.ga K "_law_parting") ["data", "seat"] [] 2 (spD K (tb K) 2 Φ__law_parting) := by
  obtain ⟨fd, Fd⟩ := c.says.def_ 52 (d := d__law_parting) rfl
  exact ⟨fd, [], Fd.kp, FunD.bindsN Fd (fun _ _ _ _ _ _ us hl => match us, hl with | [_, _], _ => rfl), .nil, fun P w base => ok__law_parting XH G c Fd P w base⟩
abbrev N__law_places : List Str := ["data"]
theorem sc__law_places : FnScope N__law_places ["data"] d__law_places.scope := ⟨rfl, rfl, rfl, by decide +kernel, rfl, by decide +kernel, by decide +kernel⟩
theorem ok__law_places {K : PySem.W.Frag} {h : Heap} {mg : Str → Option Value} (XH : K.In h) (G : h.Ns mainGlobals mg) (c : SaysX fb fn K) {fd : FuncData}
    (Fd : FunD K d__law_places.name d__law_places.qual d__law_places.params d__law_places.body d__law_places.scope (d__law_places.dvs K) (d__law_places.kws K) (He.ga K "_law_places") fd) (P : Program) (w : World) (base : Heap) :
    FnOk P w K mg base (L2.CX P w) 1 (He.ga K "_law_places") fd ["data"] (spD K (tb K) 1 Φ__law_places) := by
  have nd : List.Nodup N__law_places := sc__law_places.nd
  refine fnDD (T := tb K) (g := g__law_places) (N := N__law_places) (k := 0) Fd sc__law_places (by decide) (fun cdv A outer s H E hr tk po hu hu2 => ?_)
  unfold g__law_places
  exact (qss_cons (s_if (qt_cmp (op_eqD hu2) s_eq (q_B1 call_lenA snd_len (by rfl) (He.free_ok XH G (show (He.Fa.free "len").ok K = true from (c.fact 0 (f := fun K => (He.Fa.free "len").ok K)))) (by decide +kernel) (q_at hu (q_var 0) q_int)) q_int)
    (qss_one (s_ret (q_B1 call_lenA snd_len (by rfl) (He.free_ok XH G (show (He.Fa.free "len").ok K = true from (c.fact 0 (f := fun K => (He.Fa.free "len").ok K)))) (by decide +kernel) (q_at hu (q_var 0) q_int))))
    qss_nil)
    (qss_one (s_ret q_non)))
theorem df__law_places_1 {K : PySem.W.Frag} {h : Heap} {mg : Str → Option Value} (XH : K.In h) (G : h.Ns mainGlobals mg) (c : SaysX fb fn K) : DF K mg (He.ga K "_law_places") ["data"] [] 1 (spD K (tb K) 1 Φ__law_places) := by
  obtain ⟨fd, Fd⟩ := c.says.def_ 42 (d := d__law_places) rfl
  exact ⟨fd, [], Fd.kp, FunD.bindsN Fd (fun _ _ _ _ _ _ us hl => match us, hl with | [_], _ => rfl), .nil, fun P w base => ok__law_places XH G c Fd P w base⟩
abbrev N_NoLanguage___init__ : List Str := ["self", "place"]
theorem sc_NoLanguage___init__ : FnScope N_NoLanguage___init__ ["self", "place"] d_NoLanguage___init__.scope := ⟨rfl, rfl, rfl, by decide +kernel, rfl, by decide +kernel, by decide +kernel⟩
theorem ok_NoLanguage___init__ {K : PySem.W.Frag} {h : Heap} {mg : Str → Option Value} (XH : K.In h) (G : h.Ns mainGlobals mg) (c : SaysX fb fn K) {fd : FuncData}
    (Fd : FunD K d_NoLanguage___init__.name d_NoLanguage___init__.qual d_NoLanguage___init__.params d_NoLanguage___init__.body d_NoLanguage___init__.scope (d_NoLanguage___init__.dvs K) (d_NoLanguage___init__.kws K) (He.ma K (He.ga K "NoLanguage") "__init__") fd) (P : Program) (w : World) (base : Heap) :
    FnOk P w K mg base (L2.CX P w) 2 (He.ma K (He.ga K "NoLanguage") "__init__") fd ["self", "place"] (spX K (tb K) 22 1 Φ_NoLanguage___init__) := by
  have nd : List.Nodup N_NoLanguage___init__ := sc_NoLanguage___init__.nd
  refine fnXD 22 (T := tb K) (g := g_NoLanguage___init__) (N := N_NoLanguage___init__) (k := 1) Fd sc_NoLanguage___init__ (by decide) rfl (fun cdv A outer s H E hr tk po hu hu2 => ?_)
  unfold g_NoLanguage___init__
  exact (qx_cons (oexB_ok (show oexB (He.ga K "NoLanguage") K = true from (c.fact 47 (f := fun K => oexB (He.ga K "NoLanguage") K)))) (He.noat_ok (show (He.Fa.noat "NoLanguage" "place").ok K = true from (c.fact 48 (f := fun K => (He.Fa.noat "NoLanguage" "place").ok K)))) rfl (by decide) (d_call (df_frozen_1 XH G c) (He.glo_ok XH G (show (He.Fa.glo "frozen").ok K = true from (c.fact 14 (f := fun K => (He.Fa.glo "frozen").ok K)))) (fun _ => .nil) tk hr (qa_cons (q_var 1) qa_nil)) qx_nil)
theorem df_NoLanguage___init___2 {K : PySem.W.Frag} {h : Heap} {mg : Str → Option Value} (XH : K.In h) (G : h.Ns mainGlobals mg) (c : SaysX fb fn K) : DF K mg (He.ma K (He.ga K "NoLanguage") "__init__") ["self", "place"] [] 2 (spX K (tb K) 22 1 Φ_NoLanguage___init__) := by
  obtain ⟨fd, Fd⟩ := c.says.def_ 2 (d := d_NoLanguage___init__) rfl
  exact ⟨fd, [], Fd.kp, FunD.bindsN Fd (fun _ _ _ _ _ _ us hl => match us, hl with | [_, _], _ => rfl), .nil, fun P w base => ok_NoLanguage___init__ XH G c Fd P w base⟩
abbrev N_Family_seat : List Str := ["self", "place", "n", "band"]
theorem sc_Family_seat : FnScope N_Family_seat ["self", "place"] d_Family_seat.scope := ⟨rfl, rfl, rfl, by decide +kernel, rfl, by decide +kernel, by decide +kernel⟩
theorem ok_Family_seat {K : PySem.W.Frag} {h : Heap} {mg : Str → Option Value} (XH : K.In h) (G : h.Ns mainGlobals mg) (c : SaysX fb fn K) {fd : FuncData}
    (Fd : FunD K d_Family_seat.name d_Family_seat.qual d_Family_seat.params d_Family_seat.body d_Family_seat.scope (d_Family_seat.dvs K) (d_Family_seat.kws K) (He.ma K (He.ga K "Family") "seat") fd) (P : Program) (w : World) (base : Heap) :
    FnOk P w K mg base (L2.CX P w) 4 (He.ma K (He.ga K "Family") "seat") fd ["self", "place"] (spD K (tb K) 2 Φ_Family_seat) := by
  have nd : List.Nodup N_Family_seat := sc_Family_seat.nd
  refine fnDD (T := tb K) (g := g_Family_seat) (N := N_Family_seat) (k := 3) Fd sc_Family_seat (by decide) (fun cdv A outer s H E hr tk po hu hu2 => ?_)
  unfold g_Family_seat
  exact (qss_cons (s_if (QW.t (qw_or (qt_not (qt_val (q_isi (q_var 1) (pe_bltn (by rfl) (He.free_ok XH G (show (He.Fa.free "int").ok K = true from (c.fact 2 (f := fun K => (He.Fa.free "int").ok K)))) (v := .ty "int") (u := .type "int") (by decide +kernel) rfl) (.ty "int") (tt_int_ok c) (He.free_ok XH G (show (He.Fa.free "isinstance").ok K = true from (c.fact 12 (f := fun K => (He.Fa.free "isinstance").ok K)))) (by decide +kernel)))) (qw_or (qt_val (q_isi (q_var 1) (pe_bltn (by rfl) (He.free_ok XH G (show (He.Fa.free "bool").ok K = true from (c.fact 38 (f := fun K => (He.Fa.free "bool").ok K)))) (v := .ty "bool") (u := .type "bool") (by decide +kernel) rfl) (.ty "bool") (tt_bool_ok c) (He.free_ok XH G (show (He.Fa.free "isinstance").ok K = true from (c.fact 12 (f := fun K => (He.Fa.free "isinstance").ok K)))) (by decide +kernel))) (qw_or1 (qt_cmp op_lt s_lt (q_var 1) q_int)))))
    (qss_one (d_raise 22 1 (df_NoLanguage___init___2 XH G c) (oexB_ok (show oexB (He.ga K "NoLanguage") K = true from (c.fact 47 (f := fun K => oexB (He.ga K "NoLanguage") K)))) (xinB_ok (show xinB (He.ga K "NoLanguage") (He.ma K (He.ga K "NoLanguage") "__init__") K = true from (c.fact 50 (f := fun K => xinB (He.ga K "NoLanguage") (He.ma K (He.ga K "NoLanguage") "__init__") K)))) (He.glo_ok XH G (show (He.Fa.glo "NoLanguage").ok K = true from (c.fact 51 (f := fun K => (He.Fa.glo "NoLanguage").ok K)))) rfl (passes_call tk (fun _ _ _ _ h => h.elim)) tk hr rfl (qa_cons (q_var 1) qa_nil)))
    qss_nil)
    (qss_cons (s_if (QW.t (qw_and (qt_cmp (op_eqD hu2) s_eq (q_B1 call_lenA snd_len (by rfl) (He.free_ok XH G (show (He.Fa.free "len").ok K = true from (c.fact 0 (f := fun K => (He.Fa.free "len").ok K)))) (by decide +kernel) (q_fld tab_bands (tabok_bands c) (q_var 0))) q_int) (qw_and1 (qt_cmp op_ge s_ge (q_var 1) (q_B1 call_lenA snd_len (by rfl) (He.free_ok XH G (show (He.Fa.free "len").ok K = true from (c.fact 0 (f := fun K => (He.Fa.free "len").ok K)))) (by decide +kernel) (q_fld tab_fixed (tabok_fixed c) (q_var 0)))))))
    (qss_one (d_raise 22 1 (df_NoLanguage___init___2 XH G c) (oexB_ok (show oexB (He.ga K "NoLanguage") K = true from (c.fact 47 (f := fun K => oexB (He.ga K "NoLanguage") K)))) (xinB_ok (show xinB (He.ga K "NoLanguage") (He.ma K (He.ga K "NoLanguage") "__init__") K = true from (c.fact 50 (f := fun K => xinB (He.ga K "NoLanguage") (He.ma K (He.ga K "NoLanguage") "__init__") K)))) (He.glo_ok XH G (show (He.Fa.glo "NoLanguage").ok K = true from (c.fact 51 (f := fun K => (He.Fa.glo "NoLanguage").ok K)))) rfl (passes_call tk (fun _ _ _ _ h => h.elim)) tk hr rfl (qa_cons (q_var 1) qa_nil)))
    qss_nil)
    (qss_cons (s_if (qt_cmp op_lt s_lt (q_var 1) (q_B1 call_lenA snd_len (by rfl) (He.free_ok XH G (show (He.Fa.free "len").ok K = true from (c.fact 0 (f := fun K => (He.Fa.free "len").ok K)))) (by decide +kernel) (q_fld tab_fixed (tabok_fixed c) (q_var 0))))
    (qss_one (s_ret (q_tup (qa_cons (q_strL [102, 105, 120, 101, 100]) (qa_cons (q_var 1) qa_nil)))))
    qss_nil)
    (qss_cons (s_unp (q_B2 call_divmod snd_divmod (by rfl) (He.free_ok XH G (show (He.Fa.free "divmod").ok K = true from (c.fact 49 (f := fun K => (He.Fa.free "divmod").ok K)))) (by decide +kernel) (q_subI (q_var 1) (q_B1 call_lenA snd_len (by rfl) (He.free_ok XH G (show (He.Fa.free "len").ok K = true from (c.fact 0 (f := fun K => (He.Fa.free "len").ok K)))) (by decide +kernel) (q_fld tab_fixed (tabok_fixed c) (q_var 0)))) (q_B1 call_lenA snd_len (by rfl) (He.free_ok XH G (show (He.Fa.free "len").ok K = true from (c.fact 0 (f := fun K => (He.Fa.free "len").ok K)))) (by decide +kernel) (q_fld tab_bands (tabok_bands c) (q_var 0)))) (g_seq rfl (gs_cons (g_name 2 nd rfl (by first | exact .inl rfl | exact .inr rfl)) (gs_cons (g_name 3 nd rfl (by first | exact .inl rfl | exact .inr rfl)) gs_nil))))
    (qss_one (s_ret (q_tup (qa_cons (q_strL [98, 97, 110, 100]) (qa_cons (q_var 3) (qa_cons (q_var 2) qa_nil))))))))))
theorem df_Family_seat_2 {K : PySem.W.Frag} {h : Heap} {mg : Str → Option Value} (XH : K.In h) (G : h.Ns mainGlobals mg) (c : SaysX fb fn K) : DF K mg (He.ma K (He.ga K "Family") "seat") ["self", "place"] [] 4 (spD K (tb K) 2 Φ_Family_seat) := by
  obtain ⟨fd, Fd⟩ := c.says.def_ 35 (d := d_Family_seat) rfl
  exact ⟨fd, [], Fd.kp, FunD.bindsN Fd (fun _ _ _ _ _ _ us hl => match us, hl with | [_, _], _ => rfl), .nil, fun P w base => ok_Family_seat XH G c Fd P w base⟩
abbrev N_unfolded : List Str := ["prefix", "cycle", "length", "repeated"]
theorem sc_unfolded : FnScope N_unfolded ["prefix", "cycle", "length"] d_unfolded.scope := ⟨rfl, rfl, rfl, by decide +kernel, rfl, by decide +kernel, by decide +kernel⟩
theorem ok_unfolded {K : PySem.W.Frag} {h : Heap} {mg : Str → Option Value} (XH : K.In h) (G : h.Ns mainGlobals mg) (c : SaysX fb fn K) {fd : FuncData}
    (Fd : FunD K d_unfolded.name d_unfolded.qual d_unfolded.params d_unfolded.body d_unfolded.scope (d_unfolded.dvs K) (d_unfolded.kws K) (He.ga K "unfolded") fd) (P : Program) (w : World) (base : Heap) :
    FnOk P w K mg base (L2.CX P w) 1 (He.ga K "unfolded") fd ["prefix", "cycle", "length"] (spD K (tb K) 3 Φ_unfolded) := by
  have nd : List.Nodup N_unfolded := sc_unfolded.nd
  refine fnDD (T := tb K) (g := g_unfolded) (N := N_unfolded) (k := 0) Fd sc_unfolded (by decide) (fun cdv A outer s H E hr tk po hu hu2 => ?_)
  unfold g_unfolded
  exact (qss_cons (s_if (qt_cmp op_le s_le (q_var 2) (q_B1 call_lenA snd_len (by rfl) (He.free_ok XH G (show (He.Fa.free "len").ok K = true from (c.fact 0 (f := fun K => (He.Fa.free "len").ok K)))) (by decide +kernel) (q_var 0)))
    (qss_one (s_ret (q_sl (q_var 0) qo_none (qo_some (q_var 2)))))
    qss_nil)
    (qss_cons (s_asg 3 nd rfl (by first | exact .inl rfl | exact .inr rfl) (q_times (q_var 1) (q_plus (q_divI (q_var 2) (q_B1 call_lenA snd_len (by rfl) (He.free_ok XH G (show (He.Fa.free "len").ok K = true from (c.fact 0 (f := fun K => (He.Fa.free "len").ok K)))) (by decide +kernel) (q_var 1))) q_int)))
    (qss_one (s_ret (q_plus (q_var 0) (q_sl (q_var 3) (qo_some (q_B1 call_lenA snd_len (by rfl) (He.free_ok XH G (show (He.Fa.free "len").ok K = true from (c.fact 0 (f := fun K => (He.Fa.free "len").ok K)))) (by decide +kernel) (q_var 0))) (qo_some (q_var 2))))))))
theorem df_unfolded_3 {K : PySem.W.Frag} {h : Heap} {mg : Str → Option Value} (XH : K.In h) (G : h.Ns mainGlobals mg) (c : SaysX fb fn K) : DF K mg (He.ga K "unfolded") ["prefix", "cycle", "length"] [] 1 (spD K (tb K) 3 Φ_unfolded) := by
  obtain ⟨fd, Fd⟩ := c.says.def_ 15 (d := d_unfolded) rfl
  exact ⟨fd, [], Fd.kp, FunD.bindsN Fd (fun _ _ _ _ _ _ us hl => match us, hl with | [_, _, _], _ => rfl), .nil, fun P w base => ok_unfolded XH G c Fd P w base⟩
abbrev N_Band_language : List Str := ["self", "n", "row"]
theorem sc_Band_language : FnScope N_Band_language ["self", "n"] d_Band_language.scope := ⟨rfl, rfl, rfl, by decide +kernel, rfl, by decide +kernel, by decide +kernel⟩
theorem ok_Band_language {K : PySem.W.Frag} {h : Heap} {mg : Str → Option Value} (XH : K.In h) (G : h.Ns mainGlobals mg) (c : SaysX fb fn K) {fd : FuncData}
    (Fd : FunD K d_Band_language.name d_Band_language.qual d_Band_language.params d_Band_language.body d_Band_language.scope (d_Band_language.dvs K) (d_Band_language.kws K) (He.ma K (He.ga K "Band") "language") fd) (P : Program) (w : World) (base : Heap) :
    FnOk P w K mg base (L2.CX P w) 6 (He.ma K (He.ga K "Band") "language") fd ["self", "n"] (spD K (tb K) 2 Φ_Band_language) := by
  have nd : List.Nodup N_Band_language := sc_Band_language.nd
  refine fnDD (T := tb K) (g := g_Band_language) (N := N_Band_language) (k := 5) Fd sc_Band_language (by decide) (fun cdv A outer s H E hr tk po hu hu2 => ?_)
  unfold g_Band_language
  exact (qss_cons (s_asg 2 nd rfl (by first | exact .inl rfl | exact .inr rfl) (q_at hu (q_fld tab_rows (tabok_rows c) (q_var 0)) (q_modI (q_var 1) (q_fld tab_period (tabok_period c) (q_var 0)))))
    (qss_one (s_ret (d_new 35 (df_PeriodicSet___init___3 XH G c) (He.mkr_ok (show (He.Fa.mkr "PeriodicSet").ok K = true from (c.fact 44 (f := fun K => (He.Fa.mkr "PeriodicSet").ok K)))) (He.glo_ok XH G (show (He.Fa.glo "PeriodicSet").ok K = true from (c.fact 28 (f := fun K => (He.Fa.glo "PeriodicSet").ok K)))) (fun _ => .nil) tk hr (qa_cons (q_plus (d_call (df_unfolded_3 XH G c) (He.glo_ok XH G (show (He.Fa.glo "unfolded").ok K = true from (c.fact 52 (f := fun K => (He.Fa.glo "unfolded").ok K)))) (fun _ => .nil) tk hr (qa_cons (q_strL []) (qa_cons (q_at hu (q_var 2) q_int) (qa_cons (q_var 1) qa_nil)))) (q_at hu (q_var 2) q_int)) (qa_cons (q_at hu (q_var 2) q_int) qa_nil))))))
theorem df_Band_language_2 {K : PySem.W.Frag} {h : Heap} {mg : Str → Option Value} (XH : K.In h) (G : h.Ns mainGlobals mg) (c : SaysX fb fn K) : DF K mg (He.ma K (He.ga K "Band") "language") ["self", "n"] [] 6 (spD K (tb K) 2 Φ_Band_language) := by
  obtain ⟨fd, Fd⟩ := c.says.def_ 29 (d := d_Band_language) rfl
  exact ⟨fd, [], Fd.kp, FunD.bindsN Fd (fun _ _ _ _ _ _ us hl => match us, hl with | [_, _], _ => rfl), .nil, fun P w base => ok_Band_language XH G c Fd P w base⟩
abbrev N_Family_language : List Str := ["self", "place", "seat"]
theorem sc_Family_language : FnScope N_Family_language ["self", "place"] d_Family_language.scope := ⟨rfl, rfl, rfl, by decide +kernel, rfl, by decide +kernel, by decide +kernel⟩
theorem ok_Family_language {K : PySem.W.Frag} {h : Heap} {mg : Str → Option Value} (XH : K.In h) (G : h.Ns mainGlobals mg) (c : SaysX fb fn K) {fd : FuncData}
    (Fd : FunD K d_Family_language.name d_Family_language.qual d_Family_language.params d_Family_language.body d_Family_language.scope (d_Family_language.dvs K) (d_Family_language.kws K) (He.ma K (He.ga K "Family") "language") fd) (P : Program) (w : World) (base : Heap) :
    FnOk P w K mg base (L2.CX P w) 7 (He.ma K (He.ga K "Family") "language") fd ["self", "place"] (spD K (tb K) 2 Φ_Family_language) := by
  have nd : List.Nodup N_Family_language := sc_Family_language.nd
  refine fnDD (T := tb K) (g := g_Family_language) (N := N_Family_language) (k := 6) Fd sc_Family_language (by decide) (fun cdv A outer s H E hr tk po hu hu2 => ?_)
  unfold g_Family_language
  exact (qss_cons (s_asg 2 nd rfl (by first | exact .inl rfl | exact .inr rfl) (d_meth 18 (df_Family_seat_2 XH G c) (He.cls_ok (show (He.Fa.cls "Family").ok K = true from (c.fact 55 (f := fun K => (He.Fa.cls "Family").ok K)))) (show ("seat" : Str) ∉ clsF 18 from by decide +kernel) (He.meth_ok (show (He.Fa.meth "Family" "seat").ok K = true from (c.fact 56 (f := fun K => (He.Fa.meth "Family" "seat").ok K)))) (fun _ => .nil) tk hr (q_var 0) (qa_cons (q_var 1) qa_nil)))
    (qss_cons (s_if (qt_cmp (op_eqD hu2) s_eq (q_at hu (q_var 2) q_int) (q_strL [102, 105, 120, 101, 100]))
    (qss_one (s_ret (q_at hu (q_fld tab_fixed (tabok_fixed c) (q_var 0)) (q_var 1))))
    qss_nil)
    (qss_one (s_ret (d_meth 13 (df_Band_language_2 XH G c) (He.cls_ok (show (He.Fa.cls "Band").ok K = true from (c.fact 53 (f := fun K => (He.Fa.cls "Band").ok K)))) (show ("language" : Str) ∉ clsF 13 from by decide +kernel) (He.meth_ok (show (He.Fa.meth "Band" "language").ok K = true from (c.fact 54 (f := fun K => (He.Fa.meth "Band" "language").ok K)))) (fun _ => .nil) tk hr (q_at hu (q_fld tab_bands (tabok_bands c) (q_var 0)) (q_at hu (q_var 2) q_int)) (qa_cons (q_at hu (q_var 2) q_int) qa_nil))))))
theorem df_Family_language_2 {K : PySem.W.Frag} {h : Heap} {mg : Str → Option Value} (XH : K.In h) (G : h.Ns mainGlobals mg) (c : SaysX fb fn K) : DF K mg (He.ma K (He.ga K "Family") "language") ["self", "place"] [] 7 (spD K (tb K) 2 Φ_Family_language) := by
  obtain ⟨fd, Fd⟩ := c.says.def_ 36 (d := d_Family_language) rfl
  exact ⟨fd, [], Fd.kp, FunD.bindsN Fd (fun _ _ _ _ _ _ us hl => match us, hl with | [_, _], _ => rfl), .nil, fun P w base => ok_Family_language XH G c Fd P w base⟩
abbrev N_has_bit : List Str := ["prefix", "cycle", "number"]
theorem sc_has_bit : FnScope N_has_bit ["prefix", "cycle", "number"] d_has_bit.scope := ⟨rfl, rfl, rfl, by decide +kernel, rfl, by decide +kernel, by decide +kernel⟩
theorem ok_has_bit {K : PySem.W.Frag} {h : Heap} {mg : Str → Option Value} (XH : K.In h) (G : h.Ns mainGlobals mg) (c : SaysX fb fn K) {fd : FuncData}
    (Fd : FunD K d_has_bit.name d_has_bit.qual d_has_bit.params d_has_bit.body d_has_bit.scope (d_has_bit.dvs K) (d_has_bit.kws K) (He.ga K "has_bit") fd) (P : Program) (w : World) (base : Heap) :
    FnOk P w K mg base (L2.CX P w) 1 (He.ga K "has_bit") fd ["prefix", "cycle", "number"] (spD K (tb K) 3 Φ_has_bit) := by
  have nd : List.Nodup N_has_bit := sc_has_bit.nd
  refine fnDD (T := tb K) (g := g_has_bit) (N := N_has_bit) (k := 0) Fd sc_has_bit (by decide) (fun cdv A outer s H E hr tk po hu hu2 => ?_)
  unfold g_has_bit
  exact (qss_cons (s_if (qt_cmp op_lt s_lt (q_var 2) (q_B1 call_lenA snd_len (by rfl) (He.free_ok XH G (show (He.Fa.free "len").ok K = true from (c.fact 0 (f := fun K => (He.Fa.free "len").ok K)))) (by decide +kernel) (q_var 0)))
    (qss_one (s_ret (q_cmp (op_eqD hu2) s_eq (q_at hu (q_var 0) (q_var 2)) (q_strL [49]))))
    qss_nil)
    (qss_one (s_ret (q_cmp (op_eqD hu2) s_eq (q_at hu (q_var 1) (q_modI (q_var 2) (q_B1 call_lenA snd_len (by rfl) (He.free_ok XH G (show (He.Fa.free "len").ok K = true from (c.fact 0 (f := fun K => (He.Fa.free "len").ok K)))) (by decide +kernel) (q_var 1)))) (q_strL [49])))))
theorem df_has_bit_3 {K : PySem.W.Frag} {h : Heap} {mg : Str → Option Value} (XH : K.In h) (G : h.Ns mainGlobals mg) (c : SaysX fb fn K) : DF K mg (He.ga K "has_bit") ["prefix", "cycle", "number"] [] 1 (spD K (tb K) 3 Φ_has_bit) := by
  obtain ⟨fd, Fd⟩ := c.says.def_ 14 (d := d_has_bit) rfl
  exact ⟨fd, [], Fd.kp, FunD.bindsN Fd (fun _ _ _ _ _ _ us hl => match us, hl with | [_, _, _], _ => rfl), .nil, fun P w base => ok_has_bit XH G c Fd P w base⟩
abbrev N_PeriodicSet_after : List Str := ["self", "number", "start", "candidate"]
theorem sc_PeriodicSet_after : FnScope N_PeriodicSet_after ["self", "number"] d_PeriodicSet_after.scope := ⟨rfl, rfl, rfl, by decide +kernel, rfl, by decide +kernel, by decide +kernel⟩
theorem ok_PeriodicSet_after {K : PySem.W.Frag} {h : Heap} {mg : Str → Option Value} (XH : K.In h) (G : h.Ns mainGlobals mg) (c : SaysX fb fn K) {fd : FuncData}
    (Fd : FunD K d_PeriodicSet_after.name d_PeriodicSet_after.qual d_PeriodicSet_after.params d_PeriodicSet_after.body d_PeriodicSet_after.scope (d_PeriodicSet_after.dvs K) (d_PeriodicSet_after.kws K) (He.ma K (He.ga K "PeriodicSet") "after") fd) (P : Program) (w : World) (base : Heap) :
    FnOk P w K mg base (L2.CX P w) 2 (He.ma K (He.ga K "PeriodicSet") "after") fd ["self", "number"] (spD K (tb K) 2 Φ_PeriodicSet_after) := by
  have nd : List.Nodup N_PeriodicSet_after := sc_PeriodicSet_after.nd
  refine fnDD (T := tb K) (g := g_PeriodicSet_after) (N := N_PeriodicSet_after) (k := 1) Fd sc_PeriodicSet_after (by decide) (fun cdv A outer s H E hr tk po hu hu2 => ?_)
  unfold g_PeriodicSet_after
  exact (qss_cons (s_asg 2 nd rfl (by first | exact .inl rfl | exact .inr rfl) (q_plus (q_var 1) q_int))
    (qss_cons (s_for po rfl (qi_r2 (by rfl) (He.free_ok XH G (show (He.Fa.free "range").ok K = true from (c.fact 1 (f := fun K => (He.Fa.free "range").ok K)))) (q_var 2) (q_plus (q_B2 (call_max2 rfl) snd_max2 (by rfl) (He.free_ok XH G (show (He.Fa.free "max").ok K = true from (c.fact 5 (f := fun K => (He.Fa.free "max").ok K)))) (by decide +kernel) (q_var 2) (q_B1 call_lenA snd_len (by rfl) (He.free_ok XH G (show (He.Fa.free "len").ok K = true from (c.fact 0 (f := fun K => (He.Fa.free "len").ok K)))) (by decide +kernel) (q_fld tab_prefix (tabok_prefix c) (q_var 0)))) (q_B1 call_lenA snd_len (by rfl) (He.free_ok XH G (show (He.Fa.free "len").ok K = true from (c.fact 0 (f := fun K => (He.Fa.free "len").ok K)))) (by decide +kernel) (q_fld tab_cycle (tabok_cycle c) (q_var 0))))) (g_name 3 nd rfl (by first | exact .inl rfl | exact .inr rfl))
    (qss_one (s_if (qt_val (d_call (df_has_bit_3 XH G c) (He.glo_ok XH G (show (He.Fa.glo "has_bit").ok K = true from (c.fact 57 (f := fun K => (He.Fa.glo "has_bit").ok K)))) (fun _ => .nil) tk hr (qa_cons (q_fld tab_prefix (tabok_prefix c) (q_var 0)) (qa_cons (q_fld tab_cycle (tabok_cycle c) (q_var 0)) (qa_cons (q_var 3) qa_nil)))))
    (qss_one (s_ret (q_var 3)))
    qss_nil)))
    (qss_one (s_ret q_non))))
theorem df_PeriodicSet_after_2 {K : PySem.W.Frag} {h : Heap} {mg : Str → Option Value} (XH : K.In h) (G : h.Ns mainGlobals mg) (c : SaysX fb fn K) : DF K mg (He.ma K (He.ga K "PeriodicSet") "after") ["self", "number"] [] 2 (spD K (tb K) 2 Φ_PeriodicSet_after) := by
  obtain ⟨fd, Fd⟩ := c.says.def_ 24 (d := d_PeriodicSet_after) rfl
  exact ⟨fd, [], Fd.kp, FunD.bindsN Fd (fun _ _ _ _ _ _ us hl => match us, hl with | [_, _], _ => rfl), .nil, fun P w base => ok_PeriodicSet_after XH G c Fd P w base⟩
abbrev N_PeriodicSet_least : List Str := ["self"]
theorem sc_PeriodicSet_least : FnScope N_PeriodicSet_least ["self"] d_PeriodicSet_least.scope := ⟨rfl, rfl, rfl, by decide +kernel, rfl, by decide +kernel, by decide +kernel⟩
theorem ok_PeriodicSet_least {K : PySem.W.Frag} {h : Heap} {mg : Str → Option Value} (XH : K.In h) (G : h.Ns mainGlobals mg) (c : SaysX fb fn K) {fd : FuncData}
    (Fd : FunD K d_PeriodicSet_least.name d_PeriodicSet_least.qual d_PeriodicSet_least.params d_PeriodicSet_least.body d_PeriodicSet_least.scope (d_PeriodicSet_least.dvs K) (d_PeriodicSet_least.kws K) (He.ma K (He.ga K "PeriodicSet") "least") fd) (P : Program) (w : World) (base : Heap) :
    FnOk P w K mg base (L2.CX P w) 3 (He.ma K (He.ga K "PeriodicSet") "least") fd ["self"] (spD K (tb K) 1 Φ_PeriodicSet_least) := by
  have nd : List.Nodup N_PeriodicSet_least := sc_PeriodicSet_least.nd
  refine fnDD (T := tb K) (g := g_PeriodicSet_least) (N := N_PeriodicSet_least) (k := 2) Fd sc_PeriodicSet_least (by decide) (fun cdv A outer s H E hr tk po hu hu2 => ?_)
  unfold g_PeriodicSet_least
  exact (qss_one (s_ret (d_meth 35 (df_PeriodicSet_after_2 XH G c) (He.cls_ok (show (He.Fa.cls "PeriodicSet").ok K = true from (c.fact 29 (f := fun K => (He.Fa.cls "PeriodicSet").ok K)))) (show ("after" : Str) ∉ clsF 35 from by decide +kernel) (He.meth_ok (show (He.Fa.meth "PeriodicSet" "after").ok K = true from (c.fact 58 (f := fun K => (He.Fa.meth "PeriodicSet" "after").ok K)))) (fun _ => .nil) tk hr (q_var 0) (qa_cons (q_neg q_int) qa_nil))))
theorem df_PeriodicSet_least_1 {K : PySem.W.Frag} {h : Heap} {mg : Str → Option Value} (XH : K.In h) (G : h.Ns mainGlobals mg) (c : SaysX fb fn K) : DF K mg (He.ma K (He.ga K "PeriodicSet") "least") ["self"] [] 3 (spD K (tb K) 1 Φ_PeriodicSet_least) := by
  obtain ⟨fd, Fd⟩ := c.says.def_ 25 (d := d_PeriodicSet_least) rfl
  exact ⟨fd, [], Fd.kp, FunD.bindsN Fd (fun _ _ _ _ _ _ us hl => match us, hl with | [_], _ => rfl), .nil, fun P w base => ok_PeriodicSet_least XH G c Fd P w base⟩
abbrev N_merged : List Str := ["left", "right", "table", "one", "two"]
theorem sc_merged : FnScope N_merged ["left", "right", "table"] d_merged.scope := ⟨rfl, rfl, rfl, by decide +kernel, rfl, by decide +kernel, by decide +kernel⟩
theorem ok_merged {K : PySem.W.Frag} {h : Heap} {mg : Str → Option Value} (XH : K.In h) (G : h.Ns mainGlobals mg) (c : SaysX fb fn K) {fd : FuncData}
    (Fd : FunD K d_merged.name d_merged.qual d_merged.params d_merged.body d_merged.scope (d_merged.dvs K) (d_merged.kws K) (He.ga K "merged") fd) (P : Program) (w : World) (base : Heap) :
    FnOk P w K mg base (L2.CX P w) 1 (He.ga K "merged") fd ["left", "right", "table"] (spD K (tb K) 3 Φ_merged) := by
  have nd : List.Nodup N_merged := sc_merged.nd
  refine fnDD (T := tb K) (g := g_merged) (N := N_merged) (k := 0) Fd sc_merged (by decide) (fun cdv A outer s H E hr tk po hu hu2 => ?_)
  unfold g_merged
  exact (qss_one (s_ret (q_join (q_strL []) (q_lc [("one", 3), ("two", 4)] rfl nd (qi_zip (by rfl) (He.free_ok XH G (show (He.Fa.free "zip").ok K = true from (c.fact 59 (f := fun K => (He.Fa.free "zip").ok K)))) (q_var 0) (q_var 1)) (blkOk_of (N := N_merged) (sc := d_merged.scope) (by decide +kernel)) (by decide) (fun s_ H_ C_ cl_ fp_ => (g_seq rfl (gs_cons (g_name 3 nd rfl (by first | exact .inl rfl | exact .inr rfl)) (gs_cons (g_name 4 nd rfl (by first | exact .inl rfl | exact .inr rfl)) gs_nil)))) (fun s_ H_ C_ cl_ fp_ => qts_nil) (fun s_ H_ C_ cl_ fp_ => (q_at hu (q_var 2) (q_plus (q_times q_int (q_T1 call_intA snd_intA (by rfl) (He.free_ok XH G (show (He.Fa.free "int").ok K = true from (c.fact 2 (f := fun K => (He.Fa.free "int").ok K)))) (by decide +kernel) (q_var 3))) (q_T1 call_intA snd_intA (by rfl) (He.free_ok XH G (show (He.Fa.free "int").ok K = true from (c.fact 2 (f := fun K => (He.Fa.free "int").ok K)))) (by decide +kernel) (q_var 4)))))))))
theorem df_merged_3 {K : PySem.W.Frag} {h : Heap} {mg : Str → Option Value} (XH : K.In h) (G : h.Ns mainGlobals mg) (c : SaysX fb fn K) : DF K mg (He.ga K "merged") ["left", "right", "table"] [] 1 (spD K (tb K) 3 Φ_merged) := by
  obtain ⟨fd, Fd⟩ := c.says.def_ 16 (d := d_merged) rfl
  exact ⟨fd, [], Fd.kp, FunD.bindsN Fd (fun _ _ _ _ _ _ us hl => match us, hl with | [_, _, _], _ => rfl), .nil, fun P w base => ok_merged XH G c Fd P w base⟩
abbrev N_combined : List Str := ["one", "two", "table", "start", "period", "prefix", "left", "right"]
theorem sc_combined : FnScope N_combined ["one", "two", "table"] d_combined.scope := ⟨rfl, rfl, rfl, by decide +kernel, rfl, by decide +kernel, by decide +kernel⟩
theorem ok_combined {K : PySem.W.Frag} {h : Heap} {mg : Str → Option Value} (XH : K.In h) (G : h.Ns mainGlobals mg) (c : SaysX fb fn K) {fd : FuncData}
    (Fd : FunD K d_combined.name d_combined.qual d_combined.params d_combined.body d_combined.scope (d_combined.dvs K) (d_combined.kws K) (He.ga K "combined") fd) (P : Program) (w : World) (base : Heap) :
    FnOk P w K mg base (L2.CX P w) 2 (He.ga K "combined") fd ["one", "two", "table"] (spD K (tb K) 3 Φ_combined) := by
  have nd : List.Nodup N_combined := sc_combined.nd
  refine fnDD (T := tb K) (g := g_combined) (N := N_combined) (k := 1) Fd sc_combined (by decide) (fun cdv A outer s H E hr tk po hu hu2 => ?_)
  unfold g_combined
  exact (qss_cons (s_asg 3 nd rfl (by first | exact .inl rfl | exact .inr rfl) (q_B2 (call_max2 rfl) snd_max2 (by rfl) (He.free_ok XH G (show (He.Fa.free "max").ok K = true from (c.fact 5 (f := fun K => (He.Fa.free "max").ok K)))) (by decide +kernel) (q_B1 call_lenA snd_len (by rfl) (He.free_ok XH G (show (He.Fa.free "len").ok K = true from (c.fact 0 (f := fun K => (He.Fa.free "len").ok K)))) (by decide +kernel) (q_at hu (q_var 0) q_int)) (q_B1 call_lenA snd_len (by rfl) (He.free_ok XH G (show (He.Fa.free "len").ok K = true from (c.fact 0 (f := fun K => (He.Fa.free "len").ok K)))) (by decide +kernel) (q_at hu (q_var 1) q_int))))
    (qss_cons (s_asg 4 nd rfl (by first | exact .inl rfl | exact .inr rfl) (q_F2 cr_lcm snd_lcm (by rfl) (PySem.W.mg_of XH G (He.eqO_ok (show He.eqO (PySem.W.nsIn K mainGlobals "lcm") (some (some (.builtin "math.lcm"))) = true from (c.fact 61 (f := fun K => He.eqO (PySem.W.nsIn K mainGlobals "lcm") (some (some (.builtin "math.lcm")))))))) (q_B1 call_lenA snd_len (by rfl) (He.free_ok XH G (show (He.Fa.free "len").ok K = true from (c.fact 0 (f := fun K => (He.Fa.free "len").ok K)))) (by decide +kernel) (q_at hu (q_var 0) q_int)) (q_B1 call_lenA snd_len (by rfl) (He.free_ok XH G (show (He.Fa.free "len").ok K = true from (c.fact 0 (f := fun K => (He.Fa.free "len").ok K)))) (by decide +kernel) (q_at hu (q_var 1) q_int))))
    (qss_cons (s_asg 5 nd rfl (by first | exact .inl rfl | exact .inr rfl) (d_call (df_merged_3 XH G c) (He.glo_ok XH G (show (He.Fa.glo "merged").ok K = true from (c.fact 60 (f := fun K => (He.Fa.glo "merged").ok K)))) (fun _ => .nil) tk hr (qa_cons (d_call (df_unfolded_3 XH G c) (He.glo_ok XH G (show (He.Fa.glo "unfolded").ok K = true from (c.fact 52 (f := fun K => (He.Fa.glo "unfolded").ok K)))) (fun _ => .nil) tk hr (qa_cons (q_at hu (q_var 0) q_int) (qa_cons (q_at hu (q_var 0) q_int) (qa_cons (q_var 3) qa_nil)))) (qa_cons (d_call (df_unfolded_3 XH G c) (He.glo_ok XH G (show (He.Fa.glo "unfolded").ok K = true from (c.fact 52 (f := fun K => (He.Fa.glo "unfolded").ok K)))) (fun _ => .nil) tk hr (qa_cons (q_at hu (q_var 1) q_int) (qa_cons (q_at hu (q_var 1) q_int) (qa_cons (q_var 3) qa_nil)))) (qa_cons (q_var 2) qa_nil)))))
    (qss_cons (s_asg 6 nd rfl (by first | exact .inl rfl | exact .inr rfl) (q_times (q_at hu (q_var 0) q_int) (q_divI (q_var 4) (q_B1 call_lenA snd_len (by rfl) (He.free_ok XH G (show (He.Fa.free "len").ok K = true from (c.fact 0 (f := fun K => (He.Fa.free "len").ok K)))) (by decide +kernel) (q_at hu (q_var 0) q_int)))))
    (qss_cons (s_asg 7 nd rfl (by first | exact .inl rfl | exact .inr rfl) (q_times (q_at hu (q_var 1) q_int) (q_divI (q_var 4) (q_B1 call_lenA snd_len (by rfl) (He.free_ok XH G (show (He.Fa.free "len").ok K = true from (c.fact 0 (f := fun K => (He.Fa.free "len").ok K)))) (by decide +kernel) (q_at hu (q_var 1) q_int)))))
    (qss_one (s_ret (q_tup (qa_cons (q_var 5) (qa_cons (d_call (df_merged_3 XH G c) (He.glo_ok XH G (show (He.Fa.glo "merged").ok K = true from (c.fact 60 (f := fun K => (He.Fa.glo "merged").ok K)))) (fun _ => .nil) tk hr (qa_cons (q_var 6) (qa_cons (q_var 7) (qa_cons (q_var 2) qa_nil)))) qa_nil))))))))))
theorem df_combined_3 {K : PySem.W.Frag} {h : Heap} {mg : Str → Option Value} (XH : K.In h) (G : h.Ns mainGlobals mg) (c : SaysX fb fn K) : DF K mg (He.ga K "combined") ["one", "two", "table"] [] 2 (spD K (tb K) 3 Φ_combined) := by
  obtain ⟨fd, Fd⟩ := c.says.def_ 17 (d := d_combined) rfl
  exact ⟨fd, [], Fd.kp, FunD.bindsN Fd (fun _ _ _ _ _ _ us hl => match us, hl with | [_, _, _], _ => rfl), .nil, fun P w base => ok_combined XH G c Fd P w base⟩
abbrev N_PeriodicSet___xor__ : List Str := ["self", "other", "pair"]
theorem sc_PeriodicSet___xor__ : FnScope N_PeriodicSet___xor__ ["self", "other"] d_PeriodicSet___xor__.scope := ⟨rfl, rfl, rfl, by decide +kernel, rfl, by decide +kernel, by decide +kernel⟩
theorem ok_PeriodicSet___xor__ {K : PySem.W.Frag} {h : Heap} {mg : Str → Option Value} (XH : K.In h) (G : h.Ns mainGlobals mg) (c : SaysX fb fn K) {fd : FuncData}
    (Fd : FunD K d_PeriodicSet___xor__.name d_PeriodicSet___xor__.qual d_PeriodicSet___xor__.params d_PeriodicSet___xor__.body d_PeriodicSet___xor__.scope (d_PeriodicSet___xor__.dvs K) (d_PeriodicSet___xor__.kws K) (He.ma K (He.ga K "PeriodicSet") "__xor__") fd) (P : Program) (w : World) (base : Heap) :
    FnOk P w K mg base (L2.CX P w) 6 (He.ma K (He.ga K "PeriodicSet") "__xor__") fd ["self", "other"] (spD K (tb K) 2 Φ_PeriodicSet___xor__) := by
  have nd : List.Nodup N_PeriodicSet___xor__ := sc_PeriodicSet___xor__.nd
  refine fnDD (T := tb K) (g := g_PeriodicSet___xor__) (N := N_PeriodicSet___xor__) (k := 5) Fd sc_PeriodicSet___xor__ (by decide) (fun cdv A outer s H E hr tk po hu hu2 => ?_)
  unfold g_PeriodicSet___xor__
  exact (qss_cons (s_asg 2 nd rfl (by first | exact .inl rfl | exact .inr rfl) (d_call (df_combined_3 XH G c) (He.glo_ok XH G (show (He.Fa.glo "combined").ok K = true from (c.fact 62 (f := fun K => (He.Fa.glo "combined").ok K)))) (fun _ => .nil) tk hr (qa_cons (q_tup (qa_cons (q_fld tab_prefix (tabok_prefix c) (q_var 0)) (qa_cons (q_fld tab_cycle (tabok_cycle c) (q_var 0)) qa_nil))) (qa_cons (q_tup (qa_cons (q_fld tab_prefix (tabok_prefix c) (q_var 1)) (qa_cons (q_fld tab_cycle (tabok_cycle c) (q_var 1)) qa_nil))) (qa_cons (q_strL [48, 49, 49, 48]) qa_nil)))))
    (qss_one (s_ret (d_new 35 (df_PeriodicSet___init___3 XH G c) (He.mkr_ok (show (He.Fa.mkr "PeriodicSet").ok K = true from (c.fact 44 (f := fun K => (He.Fa.mkr "PeriodicSet").ok K)))) (He.glo_ok XH G (show (He.Fa.glo "PeriodicSet").ok K = true from (c.fact 28 (f := fun K => (He.Fa.glo "PeriodicSet").ok K)))) (fun _ => .nil) tk hr (qa_cons (q_at hu (q_var 2) q_int) (qa_cons (q_at hu (q_var 2) q_int) qa_nil))))))
theorem df_PeriodicSet___xor___2 {K : PySem.W.Frag} {h : Heap} {mg : Str → Option Value} (XH : K.In h) (G : h.Ns mainGlobals mg) (c : SaysX fb fn K) : DF K mg (He.ma K (He.ga K "PeriodicSet") "__xor__") ["self", "other"] [] 6 (spD K (tb K) 2 Φ_PeriodicSet___xor__) := by
  obtain ⟨fd, Fd⟩ := c.says.def_ 22 (d := d_PeriodicSet___xor__) rfl
  exact ⟨fd, [], Fd.kp, FunD.bindsN Fd (fun _ _ _ _ _ _ us hl => match us, hl with | [_, _], _ => rfl), .nil, fun P w base => ok_PeriodicSet___xor__ XH G c Fd P w base⟩
abbrev N_parting : List Str := ["family", "place", "language", "latest", "other", "first"]
theorem sc_parting : FnScope N_parting ["family", "place"] d_parting.scope := ⟨rfl, rfl, rfl, by decide +kernel, rfl, by decide +kernel, by decide +kernel⟩
theorem ok_parting {K : PySem.W.Frag} {h : Heap} {mg : Str → Option Value} (XH : K.In h) (G : h.Ns mainGlobals mg) (c : SaysX fb fn K) {fd : FuncData}
    (Fd : FunD K d_parting.name d_parting.qual d_parting.params d_parting.body d_parting.scope (d_parting.dvs K) (d_parting.kws K) (He.ga K "parting") fd) (P : Program) (w : World) (base : Heap) :
    FnOk P w K mg base (L2.CX P w) 8 (He.ga K "parting") fd ["family", "place"] (spD K (tb K) 2 Φ_parting) := by
  have nd : List.Nodup N_parting := sc_parting.nd
  refine fnDD (T := tb K) (g := g_parting) (N := N_parting) (k := 7) Fd sc_parting (by decide) (fun cdv A outer s H E hr tk po hu hu2 => ?_)
  unfold g_parting
  exact (qss_cons (s_asg 2 nd rfl (by first | exact .inl rfl | exact .inr rfl) (d_meth 18 (df_Family_language_2 XH G c) (He.cls_ok (show (He.Fa.cls "Family").ok K = true from (c.fact 55 (f := fun K => (He.Fa.cls "Family").ok K)))) (show ("language" : Str) ∉ clsF 18 from by decide +kernel) (He.meth_ok (show (He.Fa.meth "Family" "language").ok K = true from (c.fact 63 (f := fun K => (He.Fa.meth "Family" "language").ok K)))) (fun _ => .nil) tk hr (q_var 0) (qa_cons (q_var 1) qa_nil)))
    (qss_cons (s_asg 3 nd rfl (by first | exact .inl rfl | exact .inr rfl) (q_neg q_int))
    (qss_cons (s_for po rfl (qi_r1 (by rfl) (He.free_ok XH G (show (He.Fa.free "range").ok K = true from (c.fact 1 (f := fun K => (He.Fa.free "range").ok K)))) (q_var 1)) (g_name 4 nd rfl (by first | exact .inl rfl | exact .inr rfl))
    (qss_cons (s_asg 5 nd rfl (by first | exact .inl rfl | exact .inr rfl) (d_meth0 35 (df_PeriodicSet_least_1 XH G c) (He.cls_ok (show (He.Fa.cls "PeriodicSet").ok K = true from (c.fact 29 (f := fun K => (He.Fa.cls "PeriodicSet").ok K)))) (show ("least" : Str) ∉ clsF 35 from by decide +kernel) (He.meth_ok (show (He.Fa.meth "PeriodicSet" "least").ok K = true from (c.fact 66 (f := fun K => (He.Fa.meth "PeriodicSet" "least").ok K)))) (fun _ => .nil) tk hr (q_op (d_op (op := .BitXor) (c := 35) (df_PeriodicSet___xor___2 XH G c) (show PySem.W.selfFirst K (He.ga K "PeriodicSet") = true from (c.fact 64 (f := fun K => PySem.W.selfFirst K (He.ga K "PeriodicSet")))) (He.meth_ok (show (He.Fa.meth "PeriodicSet" "__xor__").ok K = true from (c.fact 65 (f := fun K => (He.Fa.meth "PeriodicSet" "__xor__").ok K)))) hr) (s_opO 35) (q_var 2) (d_meth 18 (df_Family_language_2 XH G c) (He.cls_ok (show (He.Fa.cls "Family").ok K = true from (c.fact 55 (f := fun K => (He.Fa.cls "Family").ok K)))) (show ("language" : Str) ∉ clsF 18 from by decide +kernel) (He.meth_ok (show (He.Fa.meth "Family" "language").ok K = true from (c.fact 63 (f := fun K => (He.Fa.meth "Family" "language").ok K)))) (fun _ => .nil) tk hr (q_var 0) (qa_cons (q_var 4) qa_nil)))))
    (qss_one (s_if (qt_cmp op_notN s_notN (q_var 5) q_non)
    (qss_one (s_asg 3 nd rfl (by first | exact .inl rfl | exact .inr rfl) (q_B2 (call_max2 rfl) snd_max2 (by rfl) (He.free_ok XH G (show (He.Fa.free "max").ok K = true from (c.fact 5 (f := fun K => (He.Fa.free "max").ok K)))) (by decide +kernel) (q_var 3) (q_var 5))))
    qss_nil))))
    (qss_one (s_ret (q_var 3))))))
theorem df_parting_2 {K : PySem.W.Frag} {h : Heap} {mg : Str → Option Value} (XH : K.In h) (G : h.Ns mainGlobals mg) (c : SaysX fb fn K) : DF K mg (He.ga K "parting") ["family", "place"] [] 8 (spD K (tb K) 2 Φ_parting) := by
  obtain ⟨fd, Fd⟩ := c.says.def_ 9 (d := d_parting) rfl
  exact ⟨fd, [], Fd.kp, FunD.bindsN Fd (fun _ _ _ _ _ _ us hl => match us, hl with | [_, _], _ => rfl), .nil, fun P w base => ok_parting XH G c Fd P w base⟩
abbrev N_enough_answers : List Str := ["family", "place", "lies"]
theorem sc_enough_answers : FnScope N_enough_answers ["family", "place", "lies"] d_enough_answers.scope := ⟨rfl, rfl, rfl, by decide +kernel, rfl, by decide +kernel, by decide +kernel⟩
theorem ok_enough_answers {K : PySem.W.Frag} {h : Heap} {mg : Str → Option Value} (XH : K.In h) (G : h.Ns mainGlobals mg) (c : SaysX fb fn K) {fd : FuncData}
    (Fd : FunD K d_enough_answers.name d_enough_answers.qual d_enough_answers.params d_enough_answers.body d_enough_answers.scope (d_enough_answers.dvs K) (d_enough_answers.kws K) (He.ga K "enough_answers") fd) (P : Program) (w : World) (base : Heap) :
    FnOk P w K mg base (L2.CX P w) 9 (He.ga K "enough_answers") fd ["family", "place", "lies"] (spD K (tb K) 3 Φ_enough_answers) := by
  have nd : List.Nodup N_enough_answers := sc_enough_answers.nd
  refine fnDD (T := tb K) (g := g_enough_answers) (N := N_enough_answers) (k := 8) Fd sc_enough_answers (by decide) (fun cdv A outer s H E hr tk po hu hu2 => ?_)
  unfold g_enough_answers
  exact (qss_one (s_ret (q_plus (q_times (q_plus (d_call (df_parting_2 XH G c) (He.glo_ok XH G (show (He.Fa.glo "parting").ok K = true from (c.fact 67 (f := fun K => (He.Fa.glo "parting").ok K)))) (fun _ => .nil) tk hr (qa_cons (q_var 0) (qa_cons (q_var 1) qa_nil))) q_int) (q_plus (q_var 2) q_int)) (q_var 2))))
theorem df_enough_answers_2 {K : PySem.W.Frag} {h : Heap} {mg : Str → Option Value} (XH : K.In h) (G : h.Ns mainGlobals mg) (c : SaysX fb fn K) : DF K mg (He.ga K "enough_answers") ["family", "place", "lies"] [V.int (0)] 9 (spD K (tb K) 3 Φ_enough_answers) := by
  obtain ⟨fd, Fd⟩ := c.says.def_ 10 (d := d_enough_answers) rfl
  obtain ⟨ds, hv, hb⟩ := FunD.binds0 (ps := ["family", "place", "lies"]) Fd 2 (List.cons_ne_nil _ _) rfl (fun D doc pm an cdv ct us ks l1 l2 => match us, l1, ks, l2 with | [_, _], _, [_], _ => ⟨_, _, _, _, _, _, rfl, rfl, rfl⟩)
  exact ⟨fd, ds, Fd.kp, hb, hv, fun P w base => ok_enough_answers XH G c Fd P w base⟩
theorem dk_enough_answers_2 {K : PySem.W.Frag} {h : Heap} {mg : Str → Option Value} (XH : K.In h) (G : h.Ns mainGlobals mg) (c : SaysX fb fn K) : DK K mg (He.ga K "enough_answers") ["family", "place", "lies"] 2 ["lies"] 9 (spD K (tb K) 3 Φ_enough_answers) := by
  obtain ⟨fd, Fd⟩ := c.says.def_ 10 (d := d_enough_answers) rfl
  obtain ⟨mv, hb⟩ := FunD.kbinds0 (ps := ["family", "place", "lies"]) Fd 2 ["lies"] [] (fun us _ ws => us ++ ws) (List.cons_ne_nil _ _) (fun q hq => nomatch hq) (fun r1 _ r2 => r1.append r2) (fun D doc pm an cdv ct us mv ws l1 l2 l3 => match us, l1, mv, l2, ws, l3 with | [_, _], _, [], _, [_], _ => rfl)
  exact ⟨fd, Fd.kp, hb, fun P w base => ok_enough_answers XH G c Fd P w base⟩
abbrev N__law_least_unsettled : List Str := ["answers", "most", "x", "yes", "pair", "no"]
theorem sc__law_least_unsettled : FnScope N__law_least_unsettled ["answers", "most"] d__law_least_unsettled.scope := ⟨rfl, rfl, rfl, by decide +kernel, rfl, by decide +kernel, by decide +kernel⟩
theorem ok__law_least_unsettled {K : PySem.W.Frag} {h : Heap} {mg : Str → Option Value} (XH : K.In h) (G : h.Ns mainGlobals mg) (c : SaysX fb fn K) {fd : FuncData}
    (Fd : FunD K d__law_least_unsettled.name d__law_least_unsettled.qual d__law_least_unsettled.params d__law_least_unsettled.body d__law_least_unsettled.scope (d__law_least_unsettled.dvs K) (d__law_least_unsettled.kws K) (He.ga K "_law_least_unsettled") fd) (P : Program) (w : World) (base : Heap) :
    FnOk P w K mg base (L2.CX P w) 1 (He.ga K "_law_least_unsettled") fd ["answers", "most"] (spD K (tb K) 2 Φ__law_least_unsettled) := by
  have nd : List.Nodup N__law_least_unsettled := sc__law_least_unsettled.nd
  refine fnDD (T := tb K) (g := g__law_least_unsettled) (N := N__law_least_unsettled) (k := 0) Fd sc__law_least_unsettled (by decide) (fun cdv A outer s H E hr tk po hu hu2 => ?_)
  unfold g__law_least_unsettled
  exact (qss_cons (s_for po rfl (qi_r1 (by rfl) (He.free_ok XH G (show (He.Fa.free "range").ok K = true from (c.fact 1 (f := fun K => (He.Fa.free "range").ok K)))) q_int) (g_name 2 nd rfl (by first | exact .inl rfl | exact .inr rfl))
    (qss_cons (s_asg 3 nd rfl (by first | exact .inl rfl | exact .inr rfl) (q_B1 call_lenA snd_len (by rfl) (He.free_ok XH G (show (He.Fa.free "len").ok K = true from (c.fact 0 (f := fun K => (He.Fa.free "len").ok K)))) (by decide +kernel) (q_lc [("pair", 4)] rfl nd (qi_all (q_var 0)) (blkOk_of (N := N__law_least_unsettled) (sc := d__law_least_unsettled.scope) (by decide +kernel)) (by decide) (fun s_ H_ C_ cl_ fp_ => (g_name 4 nd rfl (by first | exact .inl rfl | exact .inr rfl))) (fun s_ H_ C_ cl_ fp_ => (qts_one (QW.t (qw_and (qt_cmp (op_eqD hu2) s_eq (q_at hu (q_var 4) q_int) (q_var 2)) (qw_and1 (qt_val (q_at hu (q_var 4) q_int))))))) (fun s_ H_ C_ cl_ fp_ => q_int))))
    (qss_cons (s_asg 5 nd rfl (by first | exact .inl rfl | exact .inr rfl) (q_B1 call_lenA snd_len (by rfl) (He.free_ok XH G (show (He.Fa.free "len").ok K = true from (c.fact 0 (f := fun K => (He.Fa.free "len").ok K)))) (by decide +kernel) (q_lc [("pair", 4)] rfl nd (qi_all (q_var 0)) (blkOk_of (N := N__law_least_unsettled) (sc := d__law_least_unsettled.scope) (by decide +kernel)) (by decide) (fun s_ H_ C_ cl_ fp_ => (g_name 4 nd rfl (by first | exact .inl rfl | exact .inr rfl))) (fun s_ H_ C_ cl_ fp_ => (qts_one (QW.t (qw_and (qt_cmp (op_eqD hu2) s_eq (q_at hu (q_var 4) q_int) (q_var 2)) (qw_and1 (qt_not (qt_val (q_at hu (q_var 4) q_int)))))))) (fun s_ H_ C_ cl_ fp_ => q_int))))
    (qss_one (s_if (QW.t (qw_and (qt_cmp op_le s_le (q_var 3) (q_var 1)) (qw_and1 (qt_cmp op_le s_le (q_var 5) (q_var 1)))))
    (qss_one (s_ret (q_var 2)))
    qss_nil)))))
    (qss_one (s_ret q_int)))
theorem df__law_least_unsettled_2 {K : PySem.W.Frag} {h : Heap} {mg : Str → Option Value} (XH : K.In h) (G : h.Ns mainGlobals mg) (c : SaysX fb fn K) : DF K mg (He.ga K "_law_least_unsettled") ["answers", "most"] [] 1 (spD K (tb K) 2 Φ__law_least_unsettled) := by
  obtain ⟨fd, Fd⟩ := c.says.def_ 51 (d := d__law_least_unsettled) rfl
  exact ⟨fd, [], Fd.kp, FunD.bindsN Fd (fun _ _ _ _ _ _ us hl => match us, hl with | [_, _], _ => rfl), .nil, fun P w base => ok__law_least_unsettled XH G c Fd P w base⟩
abbrev N__law_whole : List Str := ["thing"]
theorem sc__law_whole : FnScope N__law_whole ["thing"] d__law_whole.scope := ⟨rfl, rfl, rfl, by decide +kernel, rfl, by decide +kernel, by decide +kernel⟩
theorem ok__law_whole {K : PySem.W.Frag} {h : Heap} {mg : Str → Option Value} (XH : K.In h) (G : h.Ns mainGlobals mg) (c : SaysX fb fn K) {fd : FuncData}
    (Fd : FunD K d__law_whole.name d__law_whole.qual d__law_whole.params d__law_whole.body d__law_whole.scope (d__law_whole.dvs K) (d__law_whole.kws K) (He.ga K "_law_whole") fd) (P : Program) (w : World) (base : Heap) :
    FnOk P w K mg base (L2.CX P w) 1 (He.ga K "_law_whole") fd ["thing"] (spD K (tb K) 1 Φ__law_whole) := by
  have nd : List.Nodup N__law_whole := sc__law_whole.nd
  refine fnDD (T := tb K) (g := g__law_whole) (N := N__law_whole) (k := 0) Fd sc__law_whole (by decide) (fun cdv A outer s H E hr tk po hu hu2 => ?_)
  unfold g__law_whole
  exact (qss_one (s_ret (q_and (q_isi (q_var 0) (pe_bltn (by rfl) (He.free_ok XH G (show (He.Fa.free "int").ok K = true from (c.fact 2 (f := fun K => (He.Fa.free "int").ok K)))) (v := .ty "int") (u := .type "int") (by decide +kernel) rfl) (.ty "int") (tt_int_ok c) (He.free_ok XH G (show (He.Fa.free "isinstance").ok K = true from (c.fact 12 (f := fun K => (He.Fa.free "isinstance").ok K)))) (by decide +kernel)) (q_one (q_not (q_isi (q_var 0) (pe_bltn (by rfl) (He.free_ok XH G (show (He.Fa.free "bool").ok K = true from (c.fact 38 (f := fun K => (He.Fa.free "bool").ok K)))) (v := .ty "bool") (u := .type "bool") (by decide +kernel) rfl) (.ty "bool") (tt_bool_ok c) (He.free_ok XH G (show (He.Fa.free "isinstance").ok K = true from (c.fact 12 (f := fun K => (He.Fa.free "isinstance").ok K)))) (by decide +kernel)))))))
theorem df__law_whole_1 {K : PySem.W.Frag} {h : Heap} {mg : Str → Option Value} (XH : K.In h) (G : h.Ns mainGlobals mg) (c : SaysX fb fn K) : DF K mg (He.ga K "_law_whole") ["thing"] [] 1 (spD K (tb K) 1 Φ__law_whole) := by
  obtain ⟨fd, Fd⟩ := c.says.def_ 37 (d := d__law_whole) rfl
  exact ⟨fd, [], Fd.kp, FunD.bindsN Fd (fun _ _ _ _ _ _ us hl => match us, hl with | [_], _ => rfl), .nil, fun P w base => ok__law_whole XH G c Fd P w base⟩
abbrev N_Family_place_count : List Str := ["self"]
theorem sc_Family_place_count : FnScope N_Family_place_count ["self"] d_Family_place_count.scope := ⟨rfl, rfl, rfl, by decide +kernel, rfl, by decide +kernel, by decide +kernel⟩
theorem ok_Family_place_count {K : PySem.W.Frag} {h : Heap} {mg : Str → Option Value} (XH : K.In h) (G : h.Ns mainGlobals mg) (c : SaysX fb fn K) {fd : FuncData}
    (Fd : FunD K d_Family_place_count.name d_Family_place_count.qual d_Family_place_count.params d_Family_place_count.body d_Family_place_count.scope (d_Family_place_count.dvs K) (d_Family_place_count.kws K) (He.ma K (He.ga K "Family") "place_count") fd) (P : Program) (w : World) (base : Heap) :
    FnOk P w K mg base (L2.CX P w) 1 (He.ma K (He.ga K "Family") "place_count") fd ["self"] (spD K (tb K) 1 Φ_Family_place_count) := by
  have nd : List.Nodup N_Family_place_count := sc_Family_place_count.nd
  refine fnDD (T := tb K) (g := g_Family_place_count) (N := N_Family_place_count) (k := 0) Fd sc_Family_place_count (by decide) (fun cdv A outer s H E hr tk po hu hu2 => ?_)
  unfold g_Family_place_count
  exact (qss_cons (s_if (qt_cmp op_gt s_gt (q_B1 call_lenA snd_len (by rfl) (He.free_ok XH G (show (He.Fa.free "len").ok K = true from (c.fact 0 (f := fun K => (He.Fa.free "len").ok K)))) (by decide +kernel) (q_fld tab_bands (tabok_bands c) (q_var 0))) q_int)
    (qss_one (s_ret q_non))
    qss_nil)
    (qss_one (s_ret (q_B1 call_lenA snd_len (by rfl) (He.free_ok XH G (show (He.Fa.free "len").ok K = true from (c.fact 0 (f := fun K => (He.Fa.free "len").ok K)))) (by decide +kernel) (q_fld tab_fixed (tabok_fixed c) (q_var 0))))))
theorem df_Family_place_count_1 {K : PySem.W.Frag} {h : Heap} {mg : Str → Option Value} (XH : K.In h) (G : h.Ns mainGlobals mg) (c : SaysX fb fn K) : DF K mg (He.ma K (He.ga K "Family") "place_count") ["self"] [] 1 (spD K (tb K) 1 Φ_Family_place_count) := by
  obtain ⟨fd, Fd⟩ := c.says.def_ 34 (d := d_Family_place_count) rfl
  exact ⟨fd, [], Fd.kp, FunD.bindsN Fd (fun _ _ _ _ _ _ us hl => match us, hl with | [_], _ => rfl), .nil, fun P w base => ok_Family_place_count XH G c Fd P w base⟩
abbrev N_tallies : List Str := ["answers", "table", "sentence", "answer", "no", "yes"]
theorem sc_tallies : FnScope N_tallies ["answers"] d_tallies.scope := ⟨rfl, rfl, rfl, by decide +kernel, rfl, by decide +kernel, by decide +kernel⟩
theorem ok_tallies {K : PySem.W.Frag} {h : Heap} {mg : Str → Option Value} (XH : K.In h) (G : h.Ns mainGlobals mg) (c : SaysX fb fn K) {fd : FuncData}
    (Fd : FunD K d_tallies.name d_tallies.qual d_tallies.params d_tallies.body d_tallies.scope (d_tallies.dvs K) (d_tallies.kws K) (He.ga K "tallies") fd) (P : Program) (w : World) (base : Heap) :
    FnOk P w K mg base (L2.CX P w) 1 (He.ga K "tallies") fd ["answers"] (spD K (tb K) 1 Φ_tallies) := by
  have nd : List.Nodup N_tallies := sc_tallies.nd
  refine fnDD (T := tb K) (g := g_tallies) (N := N_tallies) (k := 0) Fd sc_tallies (by decide) (fun cdv A outer s H E hr tk po hu hu2 => ?_)
  unfold g_tallies
  exact (qss_cons (s_own 1 nd rfl (by first | exact .inl rfl | exact .inr rfl) q_dnew)
    (qss_cons (s_for po rfl (qi_all (q_var 0)) (g_seq rfl (gs_cons (g_name 2 nd rfl (by first | exact .inl rfl | exact .inr rfl)) (gs_cons (g_name 3 nd rfl (by first | exact .inl rfl | exact .inr rfl)) gs_nil)))
    (qss_cons (s_unp (q_get2 hu (q_var 1) (q_var 2) (q_tup (qa_cons q_int (qa_cons q_int qa_nil))) ⟨rfl, rfl, rfl, rfl⟩) (g_seq rfl (gs_cons (g_name 4 nd rfl (by first | exact .inl rfl | exact .inr rfl)) (gs_cons (g_name 5 nd rfl (by first | exact .inl rfl | exact .inr rfl)) gs_nil))))
    (qss_one (s_if (qt_val (q_var 3))
    (qss_one (s_setA 1 hu rfl (by first | exact Or.inl rfl | exact Or.inr (Or.inl rfl)) (q_var 2) (q_tup (qa_cons (q_var 4) (qa_cons (q_plus (q_var 5) q_int) qa_nil))) (fun pj pe => ps_asg pe (pg_sub (pv 1) pj set_list))))
    (qss_one (s_setA 1 hu rfl (by first | exact Or.inl rfl | exact Or.inr (Or.inl rfl)) (q_var 2) (q_tup (qa_cons (q_plus (q_var 4) q_int) (qa_cons (q_var 5) qa_nil))) (fun pj pe => ps_asg pe (pg_sub (pv 1) pj set_list))))))))
    (qss_one (s_ret (q_var 1)))))
theorem df_tallies_1 {K : PySem.W.Frag} {h : Heap} {mg : Str → Option Value} (XH : K.In h) (G : h.Ns mainGlobals mg) (c : SaysX fb fn K) : DF K mg (He.ga K "tallies") ["answers"] [] 1 (spD K (tb K) 1 Φ_tallies) := by
  obtain ⟨fd, Fd⟩ := c.says.def_ 4 (d := d_tallies) rfl
  exact ⟨fd, [], Fd.kp, FunD.bindsN Fd (fun _ _ _ _ _ _ us hl => match us, hl with | [_], _ => rfl), .nil, fun P w base => ok_tallies XH G c Fd P w base⟩
abbrev N_BadAnswers___init__ : List Str := ["self", "sentence"]
theorem sc_BadAnswers___init__ : FnScope N_BadAnswers___init__ ["self", "sentence"] d_BadAnswers___init__.scope := ⟨rfl, rfl, rfl, by decide +kernel, rfl, by decide +kernel, by decide +kernel⟩
theorem ok_BadAnswers___init__ {K : PySem.W.Frag} {h : Heap} {mg : Str → Option Value} (XH : K.In h) (G : h.Ns mainGlobals mg) (c : SaysX fb fn K) {fd : FuncData}
    (Fd : FunD K d_BadAnswers___init__.name d_BadAnswers___init__.qual d_BadAnswers___init__.params d_BadAnswers___init__.body d_BadAnswers___init__.scope (d_BadAnswers___init__.dvs K) (d_BadAnswers___init__.kws K) (He.ma K (He.ga K "BadAnswers") "__init__") fd) (P : Program) (w : World) (base : Heap) :
    FnOk P w K mg base (L2.CX P w) 2 (He.ma K (He.ga K "BadAnswers") "__init__") fd ["self", "sentence"] (spX K (tb K) 3 1 Φ_BadAnswers___init__) := by
  have nd : List.Nodup N_BadAnswers___init__ := sc_BadAnswers___init__.nd
  refine fnXD 3 (T := tb K) (g := g_BadAnswers___init__) (N := N_BadAnswers___init__) (k := 1) Fd sc_BadAnswers___init__ (by decide) rfl (fun cdv A outer s H E hr tk po hu hu2 => ?_)
  unfold g_BadAnswers___init__
  exact (qx_cons (oexB_ok (show oexB (He.ga K "BadAnswers") K = true from (c.fact 68 (f := fun K => oexB (He.ga K "BadAnswers") K)))) (He.noat_ok (show (He.Fa.noat "BadAnswers" "sentence").ok K = true from (c.fact 69 (f := fun K => (He.Fa.noat "BadAnswers" "sentence").ok K)))) rfl (by decide) (d_call (df_frozen_1 XH G c) (He.glo_ok XH G (show (He.Fa.glo "frozen").ok K = true from (c.fact 14 (f := fun K => (He.Fa.glo "frozen").ok K)))) (fun _ => .nil) tk hr (qa_cons (q_var 1) qa_nil)) qx_nil)
theorem df_BadAnswers___init___2 {K : PySem.W.Frag} {h : Heap} {mg : Str → Option Value} (XH : K.In h) (G : h.Ns mainGlobals mg) (c : SaysX fb fn K) : DF K mg (He.ma K (He.ga K "BadAnswers") "__init__") ["self", "sentence"] [] 2 (spX K (tb K) 3 1 Φ_BadAnswers___init__) := by
  obtain ⟨fd, Fd⟩ := c.says.def_ 3 (d := d_BadAnswers___init__) rfl
  exact ⟨fd, [], Fd.kp, FunD.bindsN Fd (fun _ _ _ _ _ _ us hl => match us, hl with | [_, _], _ => rfl), .nil, fun P w base => ok_BadAnswers___init__ XH G c Fd P w base⟩
abbrev N_settled : List Str := ["answers", "lies", "table", "found", "sentence", "no", "yes"]
theorem sc_settled : FnScope N_settled ["answers", "lies"] d_settled.scope := ⟨rfl, rfl, rfl, by decide +kernel, rfl, by decide +kernel, by decide +kernel⟩
theorem ok_settled {K : PySem.W.Frag} {h : Heap} {mg : Str → Option Value} (XH : K.In h) (G : h.Ns mainGlobals mg) (c : SaysX fb fn K) {fd : FuncData}
    (Fd : FunD K d_settled.name d_settled.qual d_settled.params d_settled.body d_settled.scope (d_settled.dvs K) (d_settled.kws K) (He.ga K "settled") fd) (P : Program) (w : World) (base : Heap) :
    FnOk P w K mg base (L2.CX P w) 4 (He.ga K "settled") fd ["answers", "lies"] (spD K (tb K) 2 Φ_settled) := by
  have nd : List.Nodup N_settled := sc_settled.nd
  refine fnDD (T := tb K) (g := g_settled) (N := N_settled) (k := 3) Fd sc_settled (by decide) (fun cdv A outer s H E hr tk po hu hu2 => ?_)
  unfold g_settled
  exact (qss_cons (s_asg 2 nd rfl (by first | exact .inl rfl | exact .inr rfl) (d_call (df_tallies_1 XH G c) (He.glo_ok XH G (show (He.Fa.glo "tallies").ok K = true from (c.fact 73 (f := fun K => (He.Fa.glo "tallies").ok K)))) (fun _ => .nil) tk hr (qa_cons (q_var 0) qa_nil)))
    (qss_cons (s_own 3 nd rfl (by first | exact .inl rfl | exact .inr rfl) (q_lst qa_nil))
    (qss_cons (s_for po rfl (qi_all (q_B1 (CallR.or (call_sortedDI rfl) cr_sorted) (Snd1.or snd_sortedD snd_sortedI) (by rfl) (He.free_ok XH G (show (He.Fa.free "sorted").ok K = true from (c.fact 70 (f := fun K => (He.Fa.free "sorted").ok K)))) (by decide +kernel) (q_var 2))) (g_name 4 nd rfl (by first | exact .inl rfl | exact .inr rfl))
    (qss_cons (s_unp (q_at hu (q_var 2) (q_var 4)) (g_seq rfl (gs_cons (g_name 5 nd rfl (by first | exact .inl rfl | exact .inr rfl)) (gs_cons (g_name 6 nd rfl (by first | exact .inl rfl | exact .inr rfl)) gs_nil))))
    (qss_cons (s_if (QW.t (qw_and (qt_cmp op_gt s_gt (q_var 5) (q_var 1)) (qw_and1 (qt_cmp op_gt s_gt (q_var 6) (q_var 1)))))
    (qss_one (d_raise 3 1 (df_BadAnswers___init___2 XH G c) (oexB_ok (show oexB (He.ga K "BadAnswers") K = true from (c.fact 68 (f := fun K => oexB (He.ga K "BadAnswers") K)))) (xinB_ok (show xinB (He.ga K "BadAnswers") (He.ma K (He.ga K "BadAnswers") "__init__") K = true from (c.fact 71 (f := fun K => xinB (He.ga K "BadAnswers") (He.ma K (He.ga K "BadAnswers") "__init__") K)))) (He.glo_ok XH G (show (He.Fa.glo "BadAnswers").ok K = true from (c.fact 72 (f := fun K => (He.Fa.glo "BadAnswers").ok K)))) rfl (passes_call tk (fun _ _ _ _ h => h.elim)) tk hr rfl (qa_cons (q_var 4) qa_nil)))
    qss_nil)
    (qss_one (s_if (qt_cmp op_gt s_gt (q_var 6) (q_var 1))
    (qss_one (s_app 3 rfl (by first | exact Or.inl rfl | exact Or.inr (Or.inl rfl)) (q_tup (qa_cons (q_var 4) (qa_cons q_bl qa_nil))) (hpe := fun pe => pe_bm PySem.F.plainAttrs_list PySem.F.slot_list_append PySem.F.type_list_append mt_append (pv 3) (pa_cons pe pa_nil))))
    (qss_one (s_if (qt_cmp op_gt s_gt (q_var 5) (q_var 1))
    (qss_one (s_app 3 rfl (by first | exact Or.inl rfl | exact Or.inr (Or.inl rfl)) (q_tup (qa_cons (q_var 4) (qa_cons q_bl qa_nil))) (hpe := fun pe => pe_bm PySem.F.plainAttrs_list PySem.F.slot_list_append PySem.F.type_list_append mt_append (pv 3) (pa_cons pe pa_nil))))
    qss_nil)))))))
    (qss_one (s_ret (q_T1 call_tuple_of snd_tuple (by rfl) (He.free_ok XH G (show (He.Fa.free "tuple").ok K = true from (c.fact 13 (f := fun K => (He.Fa.free "tuple").ok K)))) (by decide +kernel) (q_var 3)))))))
theorem dk_settled_1 {K : PySem.W.Frag} {h : Heap} {mg : Str → Option Value} (XH : K.In h) (G : h.Ns mainGlobals mg) (c : SaysX fb fn K) : DK K mg (He.ga K "settled") ["answers", "lies"] 1 ["lies"] 4 (spD K (tb K) 2 Φ_settled) := by
  obtain ⟨fd, Fd⟩ := c.says.def_ 5 (d := d_settled) rfl
  obtain ⟨mv, hb⟩ := FunD.kbinds0 (ps := ["answers", "lies"]) Fd 1 ["lies"] [] (fun us _ ws => us ++ ws) (List.cons_ne_nil _ _) (fun q hq => nomatch hq) (fun r1 _ r2 => r1.append r2) (fun D doc pm an cdv ct us mv ws l1 l2 l3 => match us, l1, mv, l2, ws, l3 with | [_], _, [], _, [_], _ => rfl)
  exact ⟨fd, Fd.kp, hb, fun P w base => ok_settled XH G c Fd P w base⟩
abbrev N_PeriodicSet___contains__ : List Str := ["self", "number"]
theorem sc_PeriodicSet___contains__ : FnScope N_PeriodicSet___contains__ ["self", "number"] d_PeriodicSet___contains__.scope := ⟨rfl, rfl, rfl, by decide +kernel, rfl, by decide +kernel, by decide +kernel⟩
theorem ok_PeriodicSet___contains__ {K : PySem.W.Frag} {h : Heap} {mg : Str → Option Value} (XH : K.In h) (G : h.Ns mainGlobals mg) (c : SaysX fb fn K) {fd : FuncData}
    (Fd : FunD K d_PeriodicSet___contains__.name d_PeriodicSet___contains__.qual d_PeriodicSet___contains__.params d_PeriodicSet___contains__.body d_PeriodicSet___contains__.scope (d_PeriodicSet___contains__.dvs K) (d_PeriodicSet___contains__.kws K) (He.ma K (He.ga K "PeriodicSet") "__contains__") fd) (P : Program) (w : World) (base : Heap) :
    FnOk P w K mg base (L2.CX P w) 2 (He.ma K (He.ga K "PeriodicSet") "__contains__") fd ["self", "number"] (spD K (tb K) 2 Φ_PeriodicSet___contains__) := by
  have nd : List.Nodup N_PeriodicSet___contains__ := sc_PeriodicSet___contains__.nd
  refine fnDD (T := tb K) (g := g_PeriodicSet___contains__) (N := N_PeriodicSet___contains__) (k := 1) Fd sc_PeriodicSet___contains__ (by decide) (fun cdv A outer s H E hr tk po hu hu2 => ?_)
  unfold g_PeriodicSet___contains__
  exact (qss_one (s_ret (d_call (df_has_bit_3 XH G c) (He.glo_ok XH G (show (He.Fa.glo "has_bit").ok K = true from (c.fact 57 (f := fun K => (He.Fa.glo "has_bit").ok K)))) (fun _ => .nil) tk hr (qa_cons (q_fld tab_prefix (tabok_prefix c) (q_var 0)) (qa_cons (q_fld tab_cycle (tabok_cycle c) (q_var 0)) (qa_cons (q_var 1) qa_nil))))))
theorem df_PeriodicSet___contains___2 {K : PySem.W.Frag} {h : Heap} {mg : Str → Option Value} (XH : K.In h) (G : h.Ns mainGlobals mg) (c : SaysX fb fn K) : DF K mg (He.ma K (He.ga K "PeriodicSet") "__contains__") ["self", "number"] [] 2 (spD K (tb K) 2 Φ_PeriodicSet___contains__) := by
  obtain ⟨fd, Fd⟩ := c.says.def_ 20 (d := d_PeriodicSet___contains__) rfl
  exact ⟨fd, [], Fd.kp, FunD.bindsN Fd (fun _ _ _ _ _ _ us hl => match us, hl with | [_, _], _ => rfl), .nil, fun P w base => ok_PeriodicSet___contains__ XH G c Fd P w base⟩
abbrev N_agrees : List Str := ["language", "known", "sentence", "truth"]
theorem sc_agrees : FnScope N_agrees ["language", "known"] d_agrees.scope := ⟨rfl, rfl, rfl, by decide +kernel, rfl, by decide +kernel, by decide +kernel⟩
theorem ok_agrees {K : PySem.W.Frag} {h : Heap} {mg : Str → Option Value} (XH : K.In h) (G : h.Ns mainGlobals mg) (c : SaysX fb fn K) {fd : FuncData}
    (Fd : FunD K d_agrees.name d_agrees.qual d_agrees.params d_agrees.body d_agrees.scope (d_agrees.dvs K) (d_agrees.kws K) (He.ga K "agrees") fd) (P : Program) (w : World) (base : Heap) :
    FnOk P w K mg base (L2.CX P w) 3 (He.ga K "agrees") fd ["language", "known"] (spD K (tb K) 2 Φ_agrees) := by
  have nd : List.Nodup N_agrees := sc_agrees.nd
  refine fnDD (T := tb K) (g := g_agrees) (N := N_agrees) (k := 2) Fd sc_agrees (by decide) (fun cdv A outer s H E hr tk po hu hu2 => ?_)
  unfold g_agrees
  exact (qss_one (s_ret (q_B1 (cr_all rfl) snd_all (by rfl) (He.free_ok XH G (show (He.Fa.free "all").ok K = true from (c.fact 18 (f := fun K => (He.Fa.free "all").ok K)))) (by decide +kernel) (q_lc [("sentence", 2), ("truth", 3)] rfl nd (qi_all (q_var 1)) (blkOk_of (N := N_agrees) (sc := d_agrees.scope) (by decide +kernel)) (by decide) (fun s_ H_ C_ cl_ fp_ => (g_seq rfl (gs_cons (g_name 2 nd rfl (by first | exact .inl rfl | exact .inr rfl)) (gs_cons (g_name 3 nd rfl (by first | exact .inl rfl | exact .inr rfl)) gs_nil)))) (fun s_ H_ C_ cl_ fp_ => qts_nil) (fun s_ H_ C_ cl_ fp_ => (q_cmp (op_eqD hu2) s_eq (q_cmp (d_in (c := 35) (df_PeriodicSet___contains___2 XH G c) (He.meth_ok (show (He.Fa.meth "PeriodicSet" "__contains__").ok K = true from (c.fact 74 (f := fun K => (He.Fa.meth "PeriodicSet" "__contains__").ok K)))) hr) (s_inO 35) (q_var 2) (q_var 0)) (q_var 3)))))))
theorem df_agrees_2 {K : PySem.W.Frag} {h : Heap} {mg : Str → Option Value} (XH : K.In h) (G : h.Ns mainGlobals mg) (c : SaysX fb fn K) : DF K mg (He.ga K "agrees") ["language", "known"] [] 3 (spD K (tb K) 2 Φ_agrees) := by
  obtain ⟨fd, Fd⟩ := c.says.def_ 6 (d := d_agrees) rfl
  exact ⟨fd, [], Fd.kp, FunD.bindsN Fd (fun _ _ _ _ _ _ us hl => match us, hl with | [_, _], _ => rfl), .nil, fun P w base => ok_agrees XH G c Fd P w base⟩
abbrev N_asked_place : List Str := ["family", "answers", "lies", "known", "top", "sentence", "truth", "count", "place"]
theorem sc_asked_place : FnScope N_asked_place ["family", "answers", "lies"] d_asked_place.scope := ⟨rfl, rfl, rfl, by decide +kernel, rfl, by decide +kernel, by decide +kernel⟩
theorem ok_asked_place {K : PySem.W.Frag} {h : Heap} {mg : Str → Option Value} (XH : K.In h) (G : h.Ns mainGlobals mg) (c : SaysX fb fn K) {fd : FuncData}
    (Fd : FunD K d_asked_place.name d_asked_place.qual d_asked_place.params d_asked_place.body d_asked_place.scope (d_asked_place.dvs K) (d_asked_place.kws K) (He.ga K "asked_place") fd) (P : Program) (w : World) (base : Heap) :
    FnOk P w K mg base (L2.CX P w) 8 (He.ga K "asked_place") fd ["family", "answers", "lies"] (spD K (tb K) 3 Φ_asked_place) := by
  have nd : List.Nodup N_asked_place := sc_asked_place.nd
  refine fnDD (T := tb K) (g := g_asked_place) (N := N_asked_place) (k := 7) Fd sc_asked_place (by decide) (fun cdv A outer s H E hr tk po hu hu2 => ?_)
  unfold g_asked_place
  exact (qss_cons (s_asg 3 nd rfl (by first | exact .inl rfl | exact .inr rfl) (d_callK (dk_settled_1 XH G c) rfl (He.glo_ok XH G (show (He.Fa.glo "settled").ok K = true from (c.fact 79 (f := fun K => (He.Fa.glo "settled").ok K)))) tk hr (qa_cons (q_var 1) qa_nil) (qk_cons (q_var 2) qk_nil)))
    (qss_cons (s_asg 4 nd rfl (by first | exact .inl rfl | exact .inr rfl) (q_maxDf rfl hu2 (by rfl) (He.free_ok XH G (show (He.Fa.free "max").ok K = true from (c.fact 5 (f := fun K => (He.Fa.free "max").ok K)))) (by decide +kernel) (q_lc [("sentence", 5), ("truth", 6)] rfl nd (qi_all (q_var 3)) (blkOk_of (N := N_asked_place) (sc := d_asked_place.scope) (by decide +kernel)) (by decide) (fun s_ H_ C_ cl_ fp_ => (g_seq rfl (gs_cons (g_name 5 nd rfl (by first | exact .inl rfl | exact .inr rfl)) (gs_cons (g_name 6 nd rfl (by first | exact .inl rfl | exact .inr rfl)) gs_nil)))) (fun s_ H_ C_ cl_ fp_ => qts_nil) (fun s_ H_ C_ cl_ fp_ => (q_var 5))) (qk_cons (q_neg q_int) qk_nil)))
    (qss_cons (s_asg 7 nd rfl (by first | exact .inl rfl | exact .inr rfl) (d_meth0 18 (df_Family_place_count_1 XH G c) (He.cls_ok (show (He.Fa.cls "Family").ok K = true from (c.fact 55 (f := fun K => (He.Fa.cls "Family").ok K)))) (show ("place_count" : Str) ∉ clsF 18 from by decide +kernel) (He.meth_ok (show (He.Fa.meth "Family" "place_count").ok K = true from (c.fact 78 (f := fun K => (He.Fa.meth "Family" "place_count").ok K)))) (fun _ => .nil) tk hr (q_var 0)))
    (qss_cons (s_if (qt_cmp op_isN s_isN (q_var 7) q_non)
    (qss_one (s_asg 7 nd rfl (by first | exact .inl rfl | exact .inr rfl) (q_plus (q_B1 call_lenA snd_len (by rfl) (He.free_ok XH G (show (He.Fa.free "len").ok K = true from (c.fact 0 (f := fun K => (He.Fa.free "len").ok K)))) (by decide +kernel) (q_fld tab_fixed (tabok_fixed c) (q_var 0))) (q_times (q_plus (q_plus (q_var 4) (q_fld tab_period (tabok_period c) (q_var 0))) q_int) (q_B1 call_lenA snd_len (by rfl) (He.free_ok XH G (show (He.Fa.free "len").ok K = true from (c.fact 0 (f := fun K => (He.Fa.free "len").ok K)))) (by decide +kernel) (q_fld tab_bands (tabok_bands c) (q_var 0)))))))
    qss_nil)
    (qss_cons (s_for po rfl (qi_r1 (by rfl) (He.free_ok XH G (show (He.Fa.free "range").ok K = true from (c.fact 1 (f := fun K => (He.Fa.free "range").ok K)))) (q_var 7)) (g_name 8 nd rfl (by first | exact .inl rfl | exact .inr rfl))
    (qss_one (s_if (qt_val (d_call (df_agrees_2 XH G c) (He.glo_ok XH G (show (He.Fa.glo "agrees").ok K = true from (c.fact 77 (f := fun K => (He.Fa.glo "agrees").ok K)))) (fun _ => .nil) tk hr (qa_cons (d_meth 18 (df_Family_language_2 XH G c) (He.cls_ok (show (He.Fa.cls "Family").ok K = true from (c.fact 55 (f := fun K => (He.Fa.cls "Family").ok K)))) (show ("language" : Str) ∉ clsF 18 from by decide +kernel) (He.meth_ok (show (He.Fa.meth "Family" "language").ok K = true from (c.fact 63 (f := fun K => (He.Fa.meth "Family" "language").ok K)))) (fun _ => .nil) tk hr (q_var 0) (qa_cons (q_var 8) qa_nil)) (qa_cons (q_var 3) qa_nil))))
    (qss_one (s_ret (q_var 8)))
    qss_nil)))
    (qss_one (s_raise0 26 (He.exc_ok (show (He.Fa.exc "NoneAgrees").ok K = true from (c.fact 75 (f := fun K => (He.Fa.exc "NoneAgrees").ok K)))) rfl tk rfl (He.glo_ok XH G (show (He.Fa.glo "NoneAgrees").ok K = true from (c.fact 76 (f := fun K => (He.Fa.glo "NoneAgrees").ok K)))))))))))
theorem dk_asked_place_2 {K : PySem.W.Frag} {h : Heap} {mg : Str → Option Value} (XH : K.In h) (G : h.Ns mainGlobals mg) (c : SaysX fb fn K) : DK K mg (He.ga K "asked_place") ["family", "answers", "lies"] 2 ["lies"] 8 (spD K (tb K) 3 Φ_asked_place) := by
  obtain ⟨fd, Fd⟩ := c.says.def_ 7 (d := d_asked_place) rfl
  obtain ⟨mv, hb⟩ := FunD.kbinds0 (ps := ["family", "answers", "lies"]) Fd 2 ["lies"] [] (fun us _ ws => us ++ ws) (List.cons_ne_nil _ _) (fun q hq => nomatch hq) (fun r1 _ r2 => r1.append r2) (fun D doc pm an cdv ct us mv ws l1 l2 l3 => match us, l1, mv, l2, ws, l3 with | [_, _], _, [], _, [_], _ => rfl)
  exact ⟨fd, Fd.kp, hb, fun P w base => ok_asked_place XH G c Fd P w base⟩
abbrev N__law_told_set : List Str := ["told", "line", "x"]
theorem sc__law_told_set : FnScope N__law_told_set ["told", "line"] d__law_told_set.scope := ⟨rfl, rfl, rfl, by decide +kernel, rfl, by decide +kernel, by decide +kernel⟩
theorem ok__law_told_set {K : PySem.W.Frag} {h : Heap} {mg : Str → Option Value} (XH : K.In h) (G : h.Ns mainGlobals mg) (c : SaysX fb fn K) {fd : FuncData}
    (Fd : FunD K d__law_told_set.name d__law_told_set.qual d__law_told_set.params d__law_told_set.body d__law_told_set.scope (d__law_told_set.dvs K) (d__law_told_set.kws K) (He.ga K "_law_told_set") fd) (P : Program) (w : World) (base : Heap) :
    FnOk P w K mg base (L2.CX P w) 2 (He.ga K "_law_told_set") fd ["told", "line"] (spD K (tb K) 2 Φ__law_told_set) := by
  have nd : List.Nodup N__law_told_set := sc__law_told_set.nd
  refine fnDD (T := tb K) (g := g__law_told_set) (N := N__law_told_set) (k := 1) Fd sc__law_told_set (by decide) (fun cdv A outer s H E hr tk po hu hu2 => ?_)
  unfold g__law_told_set
  exact (qss_cons (s_if (QW.t (qw_or (qt_not (qt_val (q_isi (q_var 0) (pe_glob (v := .ref (He.ga K "PeriodicSet")) (by rfl) (He.glo_ok XH G (show (He.Fa.glo "PeriodicSet").ok K = true from (c.fact 28 (f := fun K => (He.Fa.glo "PeriodicSet").ok K)))) rfl) (.own (He.ga K "PeriodicSet")) (tt_PeriodicSet_ok c) (He.free_ok XH G (show (He.Fa.free "isinstance").ok K = true from (c.fact 12 (f := fun K => (He.Fa.free "isinstance").ok K)))) (by decide +kernel)))) (qw_or (qt_not (qt_val (q_isi (q_fld tab_prefix (tabok_prefix c) (q_var 0)) (pe_bltn (by rfl) (He.free_ok XH G (show (He.Fa.free "str").ok K = true from (c.fact 19 (f := fun K => (He.Fa.free "str").ok K)))) (v := .ty "str") (u := .type "str") (by decide +kernel) rfl) (.ty "str") (tt_str_ok c) (He.free_ok XH G (show (He.Fa.free "isinstance").ok K = true from (c.fact 12 (f := fun K => (He.Fa.free "isinstance").ok K)))) (by decide +kernel)))) (qw_or1 (qt_not (qt_val (q_isi (q_fld tab_cycle (tabok_cycle c) (q_var 0)) (pe_bltn (by rfl) (He.free_ok XH G (show (He.Fa.free "str").ok K = true from (c.fact 19 (f := fun K => (He.Fa.free "str").ok K)))) (v := .ty "str") (u := .type "str") (by decide +kernel) rfl) (.ty "str") (tt_str_ok c) (He.free_ok XH G (show (He.Fa.free "isinstance").ok K = true from (c.fact 12 (f := fun K => (He.Fa.free "isinstance").ok K)))) (by decide +kernel))))))))
    (qss_one (s_ret q_bl))
    qss_nil)
    (qss_cons (s_if (QW.t (qw_or (qt_cmp (op_eqD hu2) s_eq (q_B1 call_lenA snd_len (by rfl) (He.free_ok XH G (show (He.Fa.free "len").ok K = true from (c.fact 0 (f := fun K => (He.Fa.free "len").ok K)))) (by decide +kernel) (q_fld tab_cycle (tabok_cycle c) (q_var 0))) q_int) (qw_or (qt_cmp op_gt s_gt (q_B1 call_lenA snd_len (by rfl) (He.free_ok XH G (show (He.Fa.free "len").ok K = true from (c.fact 0 (f := fun K => (He.Fa.free "len").ok K)))) (by decide +kernel) (q_fld tab_cycle (tabok_cycle c) (q_var 0))) q_int) (qw_or1 (qt_cmp op_gt s_gt (q_B1 call_lenA snd_len (by rfl) (He.free_ok XH G (show (He.Fa.free "len").ok K = true from (c.fact 0 (f := fun K => (He.Fa.free "len").ok K)))) (by decide +kernel) (q_fld tab_prefix (tabok_prefix c) (q_var 0))) q_int)))))
    (qss_one (s_ret q_bl))
    qss_nil)
    (qss_cons (s_for po rfl (qi_r1 (by rfl) (He.free_ok XH G (show (He.Fa.free "range").ok K = true from (c.fact 1 (f := fun K => (He.Fa.free "range").ok K)))) (q_plus (q_B2 (call_max2 rfl) snd_max2 (by rfl) (He.free_ok XH G (show (He.Fa.free "max").ok K = true from (c.fact 5 (f := fun K => (He.Fa.free "max").ok K)))) (by decide +kernel) (q_B1 call_lenA snd_len (by rfl) (He.free_ok XH G (show (He.Fa.free "len").ok K = true from (c.fact 0 (f := fun K => (He.Fa.free "len").ok K)))) (by decide +kernel) (q_fld tab_prefix (tabok_prefix c) (q_var 0))) (q_B1 call_lenA snd_len (by rfl) (He.free_ok XH G (show (He.Fa.free "len").ok K = true from (c.fact 0 (f := fun K => (He.Fa.free "len").ok K)))) (by decide +kernel) (q_at hu (q_var 1) q_int))) (q_times q_int (q_B1 call_lenA snd_len (by rfl) (He.free_ok XH G (show (He.Fa.free "len").ok K = true from (c.fact 0 (f := fun K => (He.Fa.free "len").ok K)))) (by decide +kernel) (q_fld tab_cycle (tabok_cycle c) (q_var 0)))))) (g_name 2 nd rfl (by first | exact .inl rfl | exact .inr rfl))
    (qss_one (s_if (qt_cmp (op_neD hu2) s_ne (d_call (df__law_in_2 XH G c) (He.glo_ok XH G (show (He.Fa.glo "_law_in").ok K = true from (c.fact 45 (f := fun K => (He.Fa.glo "_law_in").ok K)))) (fun _ => .nil) tk hr (qa_cons (q_lst (qa_cons (q_fld tab_prefix (tabok_prefix c) (q_var 0)) (qa_cons (q_fld tab_cycle (tabok_cycle c) (q_var 0)) qa_nil))) (qa_cons (q_var 2) qa_nil))) (d_call (df__law_in_2 XH G c) (He.glo_ok XH G (show (He.Fa.glo "_law_in").ok K = true from (c.fact 45 (f := fun K => (He.Fa.glo "_law_in").ok K)))) (fun _ => .nil) tk hr (qa_cons (q_var 1) (qa_cons (q_var 2) qa_nil))))
    (qss_one (s_ret q_bl))
    qss_nil)))
    (qss_one (s_ret q_bl)))))
theorem df__law_told_set_2 {K : PySem.W.Frag} {h : Heap} {mg : Str → Option Value} (XH : K.In h) (G : h.Ns mainGlobals mg) (c : SaysX fb fn K) : DF K mg (He.ga K "_law_told_set") ["told", "line"] [] 2 (spD K (tb K) 2 Φ__law_told_set) := by
  obtain ⟨fd, Fd⟩ := c.says.def_ 50 (d := d__law_told_set) rfl
  exact ⟨fd, [], Fd.kp, FunD.bindsN Fd (fun _ _ _ _ _ _ us hl => match us, hl with | [_, _], _ => rfl), .nil, fun P w base => ok__law_told_set XH G c Fd P w base⟩
abbrev N__law_part_of : List Str := ["one", "two", "x"]
theorem sc__law_part_of : FnScope N__law_part_of ["one", "two"] d__law_part_of.scope := ⟨rfl, rfl, rfl, by decide +kernel, rfl, by decide +kernel, by decide +kernel⟩
theorem ok__law_part_of {K : PySem.W.Frag} {h : Heap} {mg : Str → Option Value} (XH : K.In h) (G : h.Ns mainGlobals mg) (c : SaysX fb fn K) {fd : FuncData}
    (Fd : FunD K d__law_part_of.name d__law_part_of.qual d__law_part_of.params d__law_part_of.body d__law_part_of.scope (d__law_part_of.dvs K) (d__law_part_of.kws K) (He.ga K "_law_part_of") fd) (P : Program) (w : World) (base : Heap) :
    FnOk P w K mg base (L2.CX P w) 2 (He.ga K "_law_part_of") fd ["one", "two"] (spD K (tb K) 2 Φ__law_part_of) := by
  have nd : List.Nodup N__law_part_of := sc__law_part_of.nd
  refine fnDD (T := tb K) (g := g__law_part_of) (N := N__law_part_of) (k := 1) Fd sc__law_part_of (by decide) (fun cdv A outer s H E hr tk po hu hu2 => ?_)
  unfold g__law_part_of
  exact (qss_cons (s_for po rfl (qi_r1 (by rfl) (He.free_ok XH G (show (He.Fa.free "range").ok K = true from (c.fact 1 (f := fun K => (He.Fa.free "range").ok K)))) (q_plus (q_B2 (call_max2 rfl) snd_max2 (by rfl) (He.free_ok XH G (show (He.Fa.free "max").ok K = true from (c.fact 5 (f := fun K => (He.Fa.free "max").ok K)))) (by decide +kernel) (q_B1 call_lenA snd_len (by rfl) (He.free_ok XH G (show (He.Fa.free "len").ok K = true from (c.fact 0 (f := fun K => (He.Fa.free "len").ok K)))) (by decide +kernel) (q_at hu (q_var 0) q_int)) (q_B1 call_lenA snd_len (by rfl) (He.free_ok XH G (show (He.Fa.free "len").ok K = true from (c.fact 0 (f := fun K => (He.Fa.free "len").ok K)))) (by decide +kernel) (q_at hu (q_var 1) q_int))) q_int)) (g_name 2 nd rfl (by first | exact .inl rfl | exact .inr rfl))
    (qss_one (s_if (QW.t (qw_and (qt_val (d_call (df__law_in_2 XH G c) (He.glo_ok XH G (show (He.Fa.glo "_law_in").ok K = true from (c.fact 45 (f := fun K => (He.Fa.glo "_law_in").ok K)))) (fun _ => .nil) tk hr (qa_cons (q_var 0) (qa_cons (q_var 2) qa_nil)))) (qw_and1 (qt_not (qt_val (d_call (df__law_in_2 XH G c) (He.glo_ok XH G (show (He.Fa.glo "_law_in").ok K = true from (c.fact 45 (f := fun K => (He.Fa.glo "_law_in").ok K)))) (fun _ => .nil) tk hr (qa_cons (q_var 1) (qa_cons (q_var 2) qa_nil))))))))
    (qss_one (s_ret q_bl))
    qss_nil)))
    (qss_one (s_ret q_bl)))
theorem df__law_part_of_2 {K : PySem.W.Frag} {h : Heap} {mg : Str → Option Value} (XH : K.In h) (G : h.Ns mainGlobals mg) (c : SaysX fb fn K) : DF K mg (He.ga K "_law_part_of") ["one", "two"] [] 2 (spD K (tb K) 2 Φ__law_part_of) := by
  obtain ⟨fd, Fd⟩ := c.says.def_ 49 (d := d__law_part_of) rfl
  exact ⟨fd, [], Fd.kp, FunD.bindsN Fd (fun _ _ _ _ _ _ us hl => match us, hl with | [_, _], _ => rfl), .nil, fun P w base => ok__law_part_of XH G c Fd P w base⟩
abbrev N_asked : List Str := ["family", "answers", "lies"]
theorem sc_asked : FnScope N_asked ["family", "answers", "lies"] d_asked.scope := ⟨rfl, rfl, rfl, by decide +kernel, rfl, by decide +kernel, by decide +kernel⟩
theorem ok_asked {K : PySem.W.Frag} {h : Heap} {mg : Str → Option Value} (XH : K.In h) (G : h.Ns mainGlobals mg) (c : SaysX fb fn K) {fd : FuncData}
    (Fd : FunD K d_asked.name d_asked.qual d_asked.params d_asked.body d_asked.scope (d_asked.dvs K) (d_asked.kws K) (He.ga K "asked") fd) (P : Program) (w : World) (base : Heap) :
    FnOk P w K mg base (L2.CX P w) 9 (He.ga K "asked") fd ["family", "answers", "lies"] (spD K (tb K) 3 Φ_asked) := by
  have nd : List.Nodup N_asked := sc_asked.nd
  refine fnDD (T := tb K) (g := g_asked) (N := N_asked) (k := 8) Fd sc_asked (by decide) (fun cdv A outer s H E hr tk po hu hu2 => ?_)
  unfold g_asked
  exact (qss_one (s_ret (d_meth 18 (df_Family_language_2 XH G c) (He.cls_ok (show (He.Fa.cls "Family").ok K = true from (c.fact 55 (f := fun K => (He.Fa.cls "Family").ok K)))) (show ("language" : Str) ∉ clsF 18 from by decide +kernel) (He.meth_ok (show (He.Fa.meth "Family" "language").ok K = true from (c.fact 63 (f := fun K => (He.Fa.meth "Family" "language").ok K)))) (fun _ => .nil) tk hr (q_var 0) (qa_cons (d_callK (dk_asked_place_2 XH G c) rfl (He.glo_ok XH G (show (He.Fa.glo "asked_place").ok K = true from (c.fact 80 (f := fun K => (He.Fa.glo "asked_place").ok K)))) tk hr (qa_cons (q_var 0) (qa_cons (q_var 1) qa_nil)) (qk_cons (q_var 2) qk_nil)) qa_nil))))
theorem dk_asked_2 {K : PySem.W.Frag} {h : Heap} {mg : Str → Option Value} (XH : K.In h) (G : h.Ns mainGlobals mg) (c : SaysX fb fn K) : DK K mg (He.ga K "asked") ["family", "answers", "lies"] 2 ["lies"] 9 (spD K (tb K) 3 Φ_asked) := by
  obtain ⟨fd, Fd⟩ := c.says.def_ 8 (d := d_asked) rfl
  obtain ⟨mv, hb⟩ := FunD.kbinds0 (ps := ["family", "answers", "lies"]) Fd 2 ["lies"] [] (fun us _ ws => us ++ ws) (List.cons_ne_nil _ _) (fun q hq => nomatch hq) (fun r1 _ r2 => r1.append r2) (fun D doc pm an cdv ct us mv ws l1 l2 l3 => match us, l1, mv, l2, ws, l3 with | [_, _], _, [], _, [_], _ => rfl)
  exact ⟨fd, Fd.kp, hb, fun P w base => ok_asked XH G c Fd P w base⟩
abbrev N_law : List Str := ["script", "data", "family", "choice", "seat", "most", "line", "last", "enough", "great", "false_at", "answers", "lied", "turn", "told", "mine", "question", "answer"]
theorem sc_law : FnScope N_law ["script"] d_law.scope := ⟨rfl, rfl, rfl, by decide +kernel, rfl, by decide +kernel, by decide +kernel⟩
theorem ok_law {K : PySem.W.Frag} {h : Heap} {mg : Str → Option Value} (XH : K.In h) (G : h.Ns mainGlobals mg) (c : SaysX fb fn K) {fd : FuncData}
    (Fd : FunD K d_law.name d_law.qual d_law.params d_law.body d_law.scope (d_law.dvs K) (d_law.kws K) (He.ga K "law") fd) (P : Program) (w : World) (base : Heap) :
    FnOk P w K mg base (L2.CX P w) 10 (He.ga K "law") fd ["script"] (spD K (tb K) 1 Φ_law) := by
  have nd : List.Nodup N_law := sc_law.nd
  refine fnDD (T := tb K) (g := g_law) (N := N_law) (k := 9) Fd sc_law (by decide) (fun cdv A outer s H E hr tk po hu hu2 => ?_)
  unfold g_law
  exact (qss_cons (s_asg 1 nd rfl (by first | exact .inl rfl | exact .inr rfl) (d_call (df__law_any_family_2 XH G c) (He.glo_ok XH G (show (He.Fa.glo "_law_any_family").ok K = true from (c.fact 90 (f := fun K => (He.Fa.glo "_law_any_family").ok K)))) (fun _ => .nil) tk hr (qa_cons (q_var 0) (qa_cons q_int qa_nil))))
    (qss_cons (s_asg 2 nd rfl (by first | exact .inl rfl | exact .inr rfl) (d_call (df__law_build_1 XH G c) (He.glo_ok XH G (show (He.Fa.glo "_law_build").ok K = true from (c.fact 89 (f := fun K => (He.Fa.glo "_law_build").ok K)))) (fun _ => .nil) tk hr (qa_cons (q_var 1) qa_nil)))
    (qss_cons (s_asg 3 nd rfl (by first | exact .inl rfl | exact .inr rfl) (d_call (df__law_digits_2 XH G c) (He.glo_ok XH G (show (He.Fa.glo "_law_digits").ok K = true from (c.fact 8 (f := fun K => (He.Fa.glo "_law_digits").ok K)))) (fun _ => .nil) tk hr (qa_cons (d_call (df__law_cell_2 XH G c) (He.glo_ok XH G (show (He.Fa.glo "_law_cell").ok K = true from (c.fact 7 (f := fun K => (He.Fa.glo "_law_cell").ok K)))) (fun _ => .nil) tk hr (qa_cons (q_var 0) (qa_cons q_int qa_nil))) (qa_cons (q_lst (qa_cons q_int (qa_cons q_int (qa_cons q_int qa_nil)))) qa_nil))))
    (qss_cons (s_asg 4 nd rfl (by first | exact .inl rfl | exact .inr rfl) (q_at hu (q_var 3) q_int))
    (qss_cons (s_if (qt_cmp op_notN s_notN (d_call (df__law_places_1 XH G c) (He.glo_ok XH G (show (He.Fa.glo "_law_places").ok K = true from (c.fact 86 (f := fun K => (He.Fa.glo "_law_places").ok K)))) (fun _ => .nil) tk hr (qa_cons (q_var 1) qa_nil)) q_non)
    (qss_one (s_asg 4 nd rfl (by first | exact .inl rfl | exact .inr rfl) (q_modI (q_T1 call_int1 snd_int (by rfl) (He.free_ok XH G (show (He.Fa.free "int").ok K = true from (c.fact 2 (f := fun K => (He.Fa.free "int").ok K)))) (by decide +kernel) (q_var 4)) (q_B1 call_lenA snd_len (by rfl) (He.free_ok XH G (show (He.Fa.free "len").ok K = true from (c.fact 0 (f := fun K => (He.Fa.free "len").ok K)))) (by decide +kernel) (q_at hu (q_var 1) q_int)))))
    qss_nil)
    (qss_cons (s_asg 5 nd rfl (by first | exact .inl rfl | exact .inr rfl) (q_at hu (q_var 3) q_int))
    (qss_cons (s_asg 6 nd rfl (by first | exact .inl rfl | exact .inr rfl) (d_call (df__law_line_2 XH G c) (He.glo_ok XH G (show (He.Fa.glo "_law_line").ok K = true from (c.fact 46 (f := fun K => (He.Fa.glo "_law_line").ok K)))) (fun _ => .nil) tk hr (qa_cons (q_var 1) (qa_cons (q_var 4) qa_nil))))
    (qss_cons (s_asg 7 nd rfl (by first | exact .inl rfl | exact .inr rfl) (d_call (df__law_parting_2 XH G c) (He.glo_ok XH G (show (He.Fa.glo "_law_parting").ok K = true from (c.fact 87 (f := fun K => (He.Fa.glo "_law_parting").ok K)))) (fun _ => .nil) tk hr (qa_cons (q_var 1) (qa_cons (q_var 4) qa_nil))))
    (qss_cons (s_asg 8 nd rfl (by first | exact .inl rfl | exact .inr rfl) (q_plus (q_times (q_plus (q_var 7) q_int) (q_plus (q_var 5) q_int)) (q_var 5)))
    (qss_cons (s_if (QW.t (qw_or (qt_cmp (op_neD hu2) s_ne (d_call (df_parting_2 XH G c) (He.glo_ok XH G (show (He.Fa.glo "parting").ok K = true from (c.fact 67 (f := fun K => (He.Fa.glo "parting").ok K)))) (fun _ => .nil) tk hr (qa_cons (q_var 2) (qa_cons (q_var 4) qa_nil))) (q_var 7)) (qw_or (qt_cmp (op_neD hu2) s_ne (d_callK (dk_enough_answers_2 XH G c) rfl (He.glo_ok XH G (show (He.Fa.glo "enough_answers").ok K = true from (c.fact 88 (f := fun K => (He.Fa.glo "enough_answers").ok K)))) tk hr (qa_cons (q_var 2) (qa_cons (q_var 4) qa_nil)) (qk_cons (q_var 5) qk_nil)) (q_var 8)) (qw_or1 (qt_not (qt_val (d_call (df__law_whole_1 XH G c) (He.glo_ok XH G (show (He.Fa.glo "_law_whole").ok K = true from (c.fact 85 (f := fun K => (He.Fa.glo "_law_whole").ok K)))) (fun _ => .nil) tk hr (qa_cons (d_call (df_parting_2 XH G c) (He.glo_ok XH G (show (He.Fa.glo "parting").ok K = true from (c.fact 67 (f := fun K => (He.Fa.glo "parting").ok K)))) (fun _ => .nil) tk hr (qa_cons (q_var 2) (qa_cons (q_var 4) qa_nil))) qa_nil))))))))
    (qss_one (s_ret q_bl))
    qss_nil)
    (qss_cons (s_if (qt_cmp (op_neD hu2) s_ne (d_call (df_enough_answers_2 XH G c) (He.glo_ok XH G (show (He.Fa.glo "enough_answers").ok K = true from (c.fact 88 (f := fun K => (He.Fa.glo "enough_answers").ok K)))) (fun _ => (.cons _ _ _ _ (.int _) .nil)) tk hr (qa_cons (q_var 2) (qa_cons (q_var 4) qa_nil))) (q_plus (q_var 7) q_int))
    (qss_one (s_ret q_bl))
    qss_nil)
    (qss_cons (s_asg 9 nd rfl (by first | exact .inl rfl | exact .inr rfl) (q_plus q_int (q_at hu (q_var 3) q_int)))
    (qss_cons (s_if (QW.t (qw_and (qt_cmp op_isN s_isN (d_call (df__law_places_1 XH G c) (He.glo_ok XH G (show (He.Fa.glo "_law_places").ok K = true from (c.fact 86 (f := fun K => (He.Fa.glo "_law_places").ok K)))) (fun _ => .nil) tk hr (qa_cons (q_var 1) qa_nil)) q_non) (qw_and1 (qt_cmp (op_neD hu2) s_ne (d_call (df_parting_2 XH G c) (He.glo_ok XH G (show (He.Fa.glo "parting").ok K = true from (c.fact 67 (f := fun K => (He.Fa.glo "parting").ok K)))) (fun _ => .nil) tk hr (qa_cons (q_var 2) (qa_cons (q_var 9) qa_nil))) (d_call (df__law_parting_2 XH G c) (He.glo_ok XH G (show (He.Fa.glo "_law_parting").ok K = true from (c.fact 87 (f := fun K => (He.Fa.glo "_law_parting").ok K)))) (fun _ => .nil) tk hr (qa_cons (q_var 1) (qa_cons (q_var 9) qa_nil)))))))
    (qss_one (s_ret q_bl))
    qss_nil)
    (qss_cons (s_asg 10 nd rfl (by first | exact .inl rfl | exact .inr rfl) (q_sl (d_call (df__law_digits_2 XH G c) (He.glo_ok XH G (show (He.Fa.glo "_law_digits").ok K = true from (c.fact 8 (f := fun K => (He.Fa.glo "_law_digits").ok K)))) (fun _ => .nil) tk hr (qa_cons (d_call (df__law_cell_2 XH G c) (He.glo_ok XH G (show (He.Fa.glo "_law_cell").ok K = true from (c.fact 7 (f := fun K => (He.Fa.glo "_law_cell").ok K)))) (fun _ => .nil) tk hr (qa_cons (q_var 0) (qa_cons q_int qa_nil))) (qa_cons (q_lst (qa_cons q_int (qa_cons q_int (qa_cons q_int qa_nil)))) qa_nil))) qo_none (qo_some (q_var 5))))
    (qss_cons (s_own 11 nd rfl (by first | exact .inl rfl | exact .inr rfl) (q_lst qa_nil))
    (qss_cons (s_asg 12 nd rfl (by first | exact .inl rfl | exact .inr rfl) q_int)
    (qss_cons (s_for po rfl (qi_r1 (by rfl) (He.free_ok XH G (show (He.Fa.free "range").ok K = true from (c.fact 1 (f := fun K => (He.Fa.free "range").ok K)))) (q_plus (q_var 8) q_int)) (g_name 13 nd rfl (by first | exact .inl rfl | exact .inr rfl))
    (qss_cons (s_if (QW.t (qw_or (qt_cmp op_ge s_ge (q_var 13) (q_var 8)) (qw_or1 (qt_cmp (op_eqD hu2) s_eq (q_modI (q_var 13) q_int) q_int))))
    (qss_cons (s_asg 14 nd rfl (by first | exact .inl rfl | exact .inr rfl) (d_callK (dk_asked_place_2 XH G c) rfl (He.glo_ok XH G (show (He.Fa.glo "asked_place").ok K = true from (c.fact 80 (f := fun K => (He.Fa.glo "asked_place").ok K)))) tk hr (qa_cons (q_var 2) (qa_cons (q_T1 call_tuple_of snd_tuple (by rfl) (He.free_ok XH G (show (He.Fa.free "tuple").ok K = true from (c.fact 13 (f := fun K => (He.Fa.free "tuple").ok K)))) (by decide +kernel) (q_var 11)) qa_nil)) (qk_cons (q_var 5) qk_nil)))
    (qss_cons (s_if (QW.t (qw_or (qt_not (qt_val (d_call (df__law_whole_1 XH G c) (He.glo_ok XH G (show (He.Fa.glo "_law_whole").ok K = true from (c.fact 85 (f := fun K => (He.Fa.glo "_law_whole").ok K)))) (fun _ => .nil) tk hr (qa_cons (q_var 14) qa_nil)))) (qw_or (qt_cmp op_lt s_lt (q_var 14) q_int) (qw_or1 (qt_cmp op_gt s_gt (q_var 14) (q_var 4))))))
    (qss_one (s_ret q_bl))
    qss_nil)
    (qss_one (s_if (qt_cmp op_ge s_ge (q_var 13) (q_var 8))
    (qss_cons (s_asg 15 nd rfl (by first | exact .inl rfl | exact .inr rfl) (d_call (df__law_line_2 XH G c) (He.glo_ok XH G (show (He.Fa.glo "_law_line").ok K = true from (c.fact 46 (f := fun K => (He.Fa.glo "_law_line").ok K)))) (fun _ => .nil) tk hr (qa_cons (q_var 1) (qa_cons (q_var 14) qa_nil))))
    (qss_cons (s_if (QW.t (qw_or (qt_not (qt_val (d_call (df__law_part_of_2 XH G c) (He.glo_ok XH G (show (He.Fa.glo "_law_part_of").ok K = true from (c.fact 84 (f := fun K => (He.Fa.glo "_law_part_of").ok K)))) (fun _ => .nil) tk hr (qa_cons (q_var 15) (qa_cons (q_var 6) qa_nil))))) (qw_or1 (qt_not (qt_val (d_call (df__law_part_of_2 XH G c) (He.glo_ok XH G (show (He.Fa.glo "_law_part_of").ok K = true from (c.fact 84 (f := fun K => (He.Fa.glo "_law_part_of").ok K)))) (fun _ => .nil) tk hr (qa_cons (q_var 6) (qa_cons (q_var 15) qa_nil))))))))
    (qss_one (s_ret q_bl))
    qss_nil)
    (qss_one (s_if (qt_not (qt_val (d_call (df__law_told_set_2 XH G c) (He.glo_ok XH G (show (He.Fa.glo "_law_told_set").ok K = true from (c.fact 83 (f := fun K => (He.Fa.glo "_law_told_set").ok K)))) (fun _ => .nil) tk hr (qa_cons (d_callK (dk_asked_2 XH G c) rfl (He.glo_ok XH G (show (He.Fa.glo "asked").ok K = true from (c.fact 82 (f := fun K => (He.Fa.glo "asked").ok K)))) tk hr (qa_cons (q_var 2) (qa_cons (q_T1 call_list_of snd_list (by rfl) (He.free_ok XH G (show (He.Fa.free "list").ok K = true from (c.fact 4 (f := fun K => (He.Fa.free "list").ok K)))) (by decide +kernel) (q_var 11)) qa_nil)) (qk_cons (q_var 5) qk_nil)) (qa_cons (q_var 6) qa_nil)))))
    (qss_one (s_ret q_bl))
    qss_nil))))
    qss_nil))))
    qss_nil)
    (qss_cons (s_asg 16 nd rfl (by first | exact .inl rfl | exact .inr rfl) (d_call (df__law_least_unsettled_2 XH G c) (He.glo_ok XH G (show (He.Fa.glo "_law_least_unsettled").ok K = true from (c.fact 81 (f := fun K => (He.Fa.glo "_law_least_unsettled").ok K)))) (fun _ => .nil) tk hr (qa_cons (q_var 11) (qa_cons (q_var 5) qa_nil))))
    (qss_cons (s_asg 17 nd rfl (by first | exact .inl rfl | exact .inr rfl) (d_call (df__law_in_2 XH G c) (He.glo_ok XH G (show (He.Fa.glo "_law_in").ok K = true from (c.fact 45 (f := fun K => (He.Fa.glo "_law_in").ok K)))) (fun _ => .nil) tk hr (qa_cons (q_var 6) (qa_cons (q_var 16) qa_nil))))
    (qss_cons (s_if (QW.t (qw_and (qt_cmp op_inA s_inA (q_var 13) (q_var 10)) (qw_and1 (qt_cmp op_lt s_lt (q_var 12) (q_var 5)))))
    (qss_cons (s_asg 17 nd rfl (by first | exact .inl rfl | exact .inr rfl) (q_not (q_var 17)))
    (qss_one (s_asg 12 nd rfl (by first | exact .inl rfl | exact .inr rfl) (q_plus (q_var 12) q_int))))
    qss_nil)
    (qss_one (s_app 11 rfl (by first | exact Or.inl rfl | exact Or.inr (Or.inl rfl)) (q_tup (qa_cons (q_var 16) (qa_cons (q_var 17) qa_nil))) (hpe := fun pe => pe_bm PySem.F.plainAttrs_list PySem.F.slot_list_append PySem.F.type_list_append mt_append (pv 11) (pa_cons pe pa_nil)))))))))
    (qss_one (s_ret q_bl)))))))))))))))))))
end Pf
set_option maxHeartbeats 0
namespace Pf
open PySem PySem.Spec PyProof.Rows L2 Ev
theorem lawAt {w : World} {K : PySem.W.Frag} {h : Heap} {mg : Str → Option Value} {fa : Addr} (XH : K.In h) (G : h.Ns mainGlobals mg) (c : SaysX fb fn K) (hfa : mg ("law" : Str) = some (.ref fa)) : LamX.LawAtS PySem.Challenge.rw_nothingmadeup_k76_asking_whole w K (L2.CX PySem.Challenge.rw_nothingmadeup_k76_asking_whole.prog w) 10 63 "script" mg fa h := by
  obtain ⟨fd, Fd⟩ := c.says.def_ 53 (d := d_law) rfl
  have e := hfa.symm.trans (He.glo_ok XH G (show (He.Fa.glo "law").ok K = true from (c.fact 171 (f := fun K => (He.Fa.glo "law").ok K))))
  cases e
  refine ⟨fd, [], spD K (tb K) 1 Φ_law, (fun p hp => nomatch hp), (fun p hp => nomatch hp), (fun p hp => nomatch hp), fun s v => FunD.bindsA (ps := ["script"]) Fd (fun _ _ _ _ _ _ us hl => match us, hl with | [_], _ => rfl) s [v] rfl, fun H a ns hl hz _ hS => ?_, fun base _ _ _ => ok_law XH G c Fd _ w base⟩
  obtain ⟨f, hp⟩ := plain ns hl hz
  refine ⟨rfl, H, [.lsk (ns.map .int)], Ex.refl _, .cons _ _ _ _ (.lsk a _ _ hS (int_reps ns)) .nil, ?_⟩
  rw [hp]
  intro v H' V' _ q
  have q2 : ∃ G2 : Hp, Rep K (tb K) G2 v (.bl true) := ⟨_, q⟩
  obtain ⟨G2, q2⟩ := q2
  cases q2
  rfl
end Pf
open PySem PySem.W PySem.Calls PyProof.Rows
theorem PySem.Challenge.cw_nothingmadeup_k76_asking_whole_holds : PySem.Challenge.rw_nothingmadeup_k76_asking_whole.Holds := by
  w_on; o_law
  refine HandSHeadRun.head_imp (r := OpenLaw.row PySem.Challenge.rw_nothingmadeup_k76_asking_whole) (q := view (OpenLaw.row PySem.Challenge.rw_nothingmadeup_k76_asking_whole).prog [0, 59]) (H := Pf.hk) (ob := Pf.ob) (M := 6000) (loose := Pf.loose) (d := HandSHeadRun.topDef (OpenLaw.row PySem.Challenge.rw_nothingmadeup_k76_asking_whole).prog 59) (kwd := []) Pf.ob_eq
    Pf.run (by kernel_rfl) (by kernel_rfl) (by kernel_rfl) (by rfl) (by first | assumption | decide +kernel) (by decide +kernel) ⟨rfl, rfl, rfl, rfl, rfl, by decide +kernel⟩ ?hw ?hc
  case hw => w_witness2
  case hc =>
    refine LamX.walk_ofTsE (l := PySem.Challenge.rw_nothingmadeup_k76_asking_whole) (n := 63) (k := 10) (x := "script") (CX := fun w => L2.CX PySem.Challenge.rw_nothingmadeup_k76_asking_whole.prog w) rfl (by decide) (by kernel_rfl) ⟨rfl, by decide, by decide⟩ ?F (fun w H s e s' z => by obtain ⟨_, _, _, _, _, _, _, _, _, _, _, _, z⟩ := z; exact z)
    intro w mg fa h Y G hmg0
    obtain ⟨K, KX, c⟩ := Y
    have hmg : mg ("law" : PySem.Str) = some (.ref fa) := by
      have e : (HandSHeadRun.topDef (OpenLaw.row PySem.Challenge.rw_nothingmadeup_k76_asking_whole).prog 59).name = ("law" : PySem.Str) := by kernel_rfl
      rw [← e]
      exact hmg0
    exact ⟨K, KX, Pf.lawAt KX G c hmg⟩

