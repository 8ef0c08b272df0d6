import PyProof.Rows.All
import Wide.All
import OpenK.AllK
import Wide.FinOn
import HandS.ForMost
import HandS.ForExc
import HandS.Lambda
import HandS.More
import HandS.Style
import HandS.TupAny
import HandS.IsInst
import HandS.Steps
import HandS.NoneIn
import HandS.Iter
import HandS.Codes
import HandS.Exc
import HandS.Defaults
import HandS.Words
import HandS.Head0
import HandS.Head1
import HandS.Head2
import HandS.HeadEnd
import HandS.HeadHook1
import HandS.HeadHook2
import PySem.Challenge.RW_wapentake_k02_three_rows_go
set_option Elab.async false
set_option linter.all false
set_option maxRecDepth 100000
set_option maxHeartbeats 1000000
/-! W1: values as trees with marks of ownership, and how they stand in the abstract heap. -/
namespace Wap
open PySem L2

/-- the kind of a node -/
inductive Kd where
  | lst | tup | scr
  | dK (ks : List Key)
  | dT (ks : List (List Key))
  | obj (c : Nat) (fs : List Str)
  deriving DecidableEq
/-- a value as a tree; hole: not known, not set; the mark of a node: owned by this one place alone -/
inductive D where
  | hole | non | bl (b : Bool) | int (i : Int) | str (s : List Nat)
  | nd (k : Kd) (o : Bool) (xs : List D)
instance : Inhabited D := ⟨.hole⟩

abbrev sOf (s : List Nat) : Str := ⟨s.toArray⟩

/-- the scalars -/
inductive Sc : V → D → Prop where
  | non : Sc .non .non
  | bl (b : Bool) : Sc (.bl b) (.bl b)
  | int (i : Int) : Sc (.int i) (.int i)
  | str (s : List Nat) : Sc (.str (sOf s)) (.str s)

section
variable (K : PySem.W.Frag) (cl : Nat → Addr)
/-- what stands at the address of a node -/
def HOis : Kd → List V → HO → Prop
  | .lst, vs, o => o = .lst vs
  | .tup, vs, o => o = .tup vs
  | .scr, _, _ => False
  | .dK ks, vs, o => o = .dK (ks.zip vs) ∧ ks.length = vs.length ∧ ks.Nodup
  | .dT ks, vs, o => o = .dT (ks.zip vs) ∧ ks.length = vs.length ∧ ks.Nodup
  | .obj c fs, vs, o => ∃ dx, o = .ins (cl c) dx (fs.zip vs) ∧ fs.length = vs.length ∧ fs.Nodup
/-- .. of a shared one -/
def Fis (F : Hp) (p : Addr) : Kd → List V → Prop
  | .scr, vs => SqL K F p vs
  | .lst, vs => F p = some (.lst vs)
  | .tup, vs => SqT K F p vs
  | k, vs => ∃ o, F p = some o ∧ HOis cl k vs o
/-- shared values -/
inductive Reps (F : Hp) : List V → List D → Prop where
  | nil : Reps F [] []
  | hole {v vs ds} : Reps F vs ds → Reps F (v :: vs) (.hole :: ds)
  | sc {v d vs ds} : Sc v d → Reps F vs ds → Reps F (v :: vs) (d :: ds)
  | nd {p k m us xs vs ds} : Fis K cl F p k us → Reps F us xs → Reps F vs ds → Reps F (.ref p :: vs) (.nd k m xs :: ds)
/-- values, S: the addresses that are theirs alone -/
inductive Owns (F H : Hp) : List V → List D → List Addr → Prop where
  | nil : Owns F H [] [] []
  | hole {v vs ds S} : Owns F H vs ds S → Owns F H (v :: vs) (.hole :: ds) S
  | sc {v d vs ds S} : Sc v d → Owns F H vs ds S → Owns F H (v :: vs) (d :: ds) S
  | fro {v k xs vs ds S} : Reps K cl F [v] [.nd k false xs] → Owns F H vs ds S → Owns F H (v :: vs) (.nd k false xs :: ds) S
  | own {p k o us xs vs ds S1 S2} : H p = some o → HOis cl k us o → Owns F H us xs S1 → Owns F H vs ds S2 → Owns F H (.ref p :: vs) (.nd k true xs :: ds) (p :: (S1 ++ S2))
end

def Ex (H H' : Hp) : Prop := ∀ a o, H a = some o → H' a = some o
theorem Ex.refl (H : Hp) : Ex H H := fun _ _ h => h
theorem Ex.trans {H H1 H2 : Hp} (a : Ex H H1) (b : Ex H1 H2) : Ex H H2 := fun x o h => b x o (a x o h)
theorem Ex.new {H : Hp} {p : Addr} {o : HO} (h : H p = none) : Ex H (upd H p o) := fun a u e => by
  rw [upd_ne (ne_of_none e h)]
  exact e
theorem Ex.both {F H : Hp} {p : Addr} {o : HO} (h : Ex F H) : Ex (upd F p o) (upd H p o) := fun a u e => by
  by_cases z : a = p
  · subst z; rw [upd_same] at e ⊢; exact e
  · rw [upd_ne z] at e ⊢; exact h a u e

/-! ### freezing -/
mutual
/-- every mark: shared -/
def frz : D → D
  | .nd k _ xs => .nd k false (frzs xs)
  | .hole => .hole | .non => .non | .bl b => .bl b | .int i => .int i | .str s => .str s
def frzs : List D → List D
  | [] => []
  | d :: ds => frz d :: frzs ds
end
theorem frzs_eq (ds : List D) : frzs ds = ds.map frz := by
  induction ds with
  | nil => rfl
  | cons d ds ih => simp [frzs, ih]
/-- without marks of its own: it may be told twice -/
def fz : D → Bool
  | .nd _ o _ => !o
  | .hole => false
  | _ => true

section
variable {K : PySem.W.Frag} {cl : Nat → Addr} {F F' H H' : Hp} {vs us : List V} {ds es : List D} {S T : List Addr} {v : V} {d : D}
theorem Ex.sql {xs : List V} {a : Addr} (e : Ex F F') (h : SqL K F a xs) : SqL K F' a xs := by
  rcases h with (h | ⟨o, h⟩) | h
  · exact .inl (.inl (e a _ h))
  · exact .inl (.inr ⟨o, e a _ h⟩)
  · exact .inr h
theorem Ex.sqt {xs : List V} {a : Addr} (e : Ex F F') (h : SqT K F a xs) : SqT K F' a xs := by
  rcases h with (h | ⟨o, h⟩) | h
  · exact .inl (.inl (e a _ h))
  · exact .inl (.inr ⟨o, e a _ h⟩)
  · exact .inr h
theorem Fis.mono {p : Addr} {k : Kd} (e : Ex F F') (h : Fis K cl F p k us) : Fis K cl F' p k us := by
  cases k with
  | scr => exact e.sql h
  | lst => exact e p _ h
  | tup => exact e.sqt h
  | dK ks => obtain ⟨o, h1, h2⟩ := h; exact ⟨o, e p _ h1, h2⟩
  | dT ks => obtain ⟨o, h1, h2⟩ := h; exact ⟨o, e p _ h1, h2⟩
  | obj c fs => obtain ⟨o, h1, h2⟩ := h; exact ⟨o, e p _ h1, h2⟩
theorem Fis.of {p : Addr} {k : Kd} {o : HO} (h : F p = some o) (ho : HOis cl k us o) : Fis K cl F p k us := by
  cases k with
  | scr => exact ho.elim
  | lst => cases ho; exact h
  | tup => cases ho; exact .inl (.inl h)
  | dK ks => exact ⟨o, h, ho⟩
  | dT ks => exact ⟨o, h, ho⟩
  | obj c fs => exact ⟨o, h, ho⟩
theorem Reps.mono (e : Ex F F') (h : Reps K cl F vs ds) : Reps K cl F' vs ds := by
  induction h with
  | nil => exact .nil
  | hole _ ih => exact .hole ih
  | sc s _ ih => exact .sc s ih
  | nd f _ _ ih1 ih2 => exact .nd (f.mono e) ih1 ih2
theorem Reps.length (h : Reps K cl F vs ds) : vs.length = ds.length := by
  induction h with
  | nil => rfl
  | hole _ ih => simp [ih]
  | sc s _ ih => simp [ih]
  | nd f _ _ ih1 ih2 => simp [ih2]
theorem Reps.append (h : Reps K cl F vs ds) (h' : Reps K cl F us es) : Reps K cl F (vs ++ us) (ds ++ es) := by
  induction h with
  | nil => exact h'
  | hole _ ih => exact .hole ih
  | sc s _ ih => exact .sc s ih
  | nd f h1 _ ih1 ih2 => exact .nd f h1 ih2
theorem Reps.cons_inv (h : Reps K cl F (v :: vs) (d :: ds)) : Reps K cl F [v] [d] ∧ Reps K cl F vs ds := by
  cases h with
  | hole h => exact ⟨.hole .nil, h⟩
  | sc s h => exact ⟨.sc s .nil, h⟩
  | nd f h1 h2 => exact ⟨.nd f h1 .nil, h2⟩
theorem Reps.get {i : Nat} (h : Reps K cl F vs ds) (e : ds[i]? = some d) : ∃ v, vs[i]? = some v ∧ Reps K cl F [v] [d] := by
  induction ds generalizing vs i with
  | nil => simp at e
  | cons d0 ds ih =>
    cases vs with
    | nil => have := h.length; simp at this
    | cons v0 vs =>
      obtain ⟨h1, h2⟩ := h.cons_inv
      cases i with
      | zero => simp at e; subst e; exact ⟨v0, rfl, h1⟩
      | succ i => simpa using ih h2 (by simpa using e)
theorem Owns.length (h : Owns K cl F H vs ds S) : vs.length = ds.length := by
  induction h with
  | nil => rfl
  | hole _ ih => simp [ih]
  | sc s _ ih => simp [ih]
  | fro f _ ih => simp [ih]
  | own e o _ _ ih1 ih2 => simp [ih2]
/-- a tree's ownership over a change of the heap that leaves what is its own -/
theorem Owns.mono (h : Owns K cl F H vs ds S) (e : Ex F F') (hs : ∀ p o, p ∈ S → H p = some o → H' p = some o) : Owns K cl F' H' vs ds S := by
  induction h with
  | nil => exact .nil
  | hole _ ih => exact .hole (ih hs)
  | sc s _ ih => exact .sc s (ih hs)
  | fro f _ ih => exact .fro (f.mono e) (ih hs)
  | own e1 o _ _ ih1 ih2 => exact .own (hs _ _ (List.mem_cons_self ..) e1) o (ih1 fun p u hp => hs p u (by simp [hp])) (ih2 fun p u hp => hs p u (by simp [hp]))
theorem Owns.append (h : Owns K cl F H vs ds S) (h' : Owns K cl F H us es T) : Owns K cl F H (vs ++ us) (ds ++ es) (S ++ T) := by
  induction h with
  | nil => exact h'
  | hole _ ih => exact .hole ih
  | sc s _ ih => exact .sc s ih
  | fro f _ ih => exact .fro f ih
  | @own p k o us1 xs vs1 ds1 S1 S2 e1 ho h1 _ ih1 ih2 =>
    have := Owns.own (F := F) (K := K) e1 ho h1 ih2
    simpa [List.append_assoc] using this
theorem Owns.cons_inv (h : Owns K cl F H (v :: vs) (d :: ds) S) : ∃ S1 S2, S = S1 ++ S2 ∧ Owns K cl F H [v] [d] S1 ∧ Owns K cl F H vs ds S2 := by
  cases h with
  | hole h => exact ⟨[], S, rfl, .hole .nil, h⟩
  | sc s h => exact ⟨[], S, rfl, .sc s .nil, h⟩
  | fro f h => exact ⟨[], S, rfl, .fro f .nil, h⟩
  | @own p k o us xs _ _ S1 S2 e ho h1 h2 => exact ⟨p :: S1, S2, rfl, by simpa using Owns.own (S2 := []) e ho h1 .nil, h2⟩
theorem Owns.cons {S1 S2 : List Addr} (h : Owns K cl F H [v] [d] S1) (h' : Owns K cl F H vs ds S2) : Owns K cl F H (v :: vs) (d :: ds) (S1 ++ S2) := h.append h'
theorem Owns.app_inv : ∀ {vs : List V} {ds : List D} {S : List Addr}, vs.length = ds.length → Owns K cl F H (vs ++ us) (ds ++ es) S → ∃ S1 S2, S = S1 ++ S2 ∧ Owns K cl F H vs ds S1 ∧ Owns K cl F H us es S2
  | [], [], S, _, h => ⟨[], S, rfl, .nil, h⟩
  | [], _ :: _, _, l, _ => by simp at l
  | _ :: _, [], _, l, _ => by simp at l
  | v :: vs, d :: ds, S, l, h => by
    obtain ⟨S1, S2, rfl, h1, h2⟩ := Owns.cons_inv (show Owns K cl F H (v :: (vs ++ us)) (d :: (ds ++ es)) S from h)
    obtain ⟨S3, S4, rfl, h3, h4⟩ := Owns.app_inv (vs := vs) (ds := ds) (by simpa using l) h2
    exact ⟨S1 ++ S3, S4, by simp, h1.append h3, h4⟩
/-- one entry, what is ahead of it and behind it -/
theorem Owns.split {i : Nat} (h : Owns K cl F H vs ds S) (e : ds[i]? = some d) : ∃ v S1 Si S2, vs[i]? = some v ∧ S = S1 ++ (Si ++ S2) ∧ Owns K cl F H (vs.take i) (ds.take i) S1 ∧ Owns K cl F H [v] [d] Si ∧ Owns K cl F H (vs.drop (i + 1)) (ds.drop (i + 1)) S2 := by
  have hl := h.length
  have hi : i < ds.length := (List.getElem?_eq_some_iff.mp e).1
  have ed : ds = ds.take i ++ (d :: ds.drop (i + 1)) := by
    have := List.getElem?_eq_some_iff.mp e
    obtain ⟨q, z⟩ := this
    rw [← z, List.getElem_cons_drop, List.take_append_drop]
  have hv : i < vs.length := by omega
  have ev : vs = vs.take i ++ (vs[i] :: vs.drop (i + 1)) := by rw [List.getElem_cons_drop, List.take_append_drop]
  have h' : Owns K cl F H (vs.take i ++ (vs[i] :: vs.drop (i + 1))) (ds.take i ++ (d :: ds.drop (i + 1))) S := by rw [← ev, ← ed]; exact h
  obtain ⟨S1, S2, rfl, h1, h2⟩ := Owns.app_inv (by simp; omega) h'
  obtain ⟨S3, S4, rfl, h3, h4⟩ := h2.cons_inv
  exact ⟨vs[i], S1, S3, S4, by simp [hv], rfl, h1, h3, h4⟩
theorem set_eq {α : Type} {l : List α} {i : Nat} {a : α} (h : i < l.length) : l.set i a = l.take i ++ (a :: l.drop (i + 1)) := by
  rw [List.set_eq_take_append_cons_drop, if_pos h]
theorem Owns.join {i : Nat} {S1 Si S2 : List Addr} (hv : i < vs.length) (hd : i < ds.length) (h1 : Owns K cl F H (vs.take i) (ds.take i) S1) (h2 : Owns K cl F H [v] [d] Si) (h3 : Owns K cl F H (vs.drop (i + 1)) (ds.drop (i + 1)) S2) :
    Owns K cl F H (vs.set i v) (ds.set i d) (S1 ++ (Si ++ S2)) := by
  rw [set_eq hv, set_eq hd]
  exact h1.append (h2.append h3)
theorem HOis.notbl {k : Kd} {o : HO} (h : HOis cl k us o) : ∀ ps, o ≠ .tbl ps := by
  intro ps z
  subst z
  cases k with
  | scr => exact h.elim
  | lst => cases h
  | tup => cases h
  | dK ks => obtain ⟨e, _⟩ := h; cases e
  | dT ks => obtain ⟨e, _⟩ := h; cases e
  | obj c fs => obtain ⟨dx, e, _⟩ := h; cases e
theorem HOis.noext {k : Kd} {o : HO} (h : HOis cl k us o) : ∀ φ, o ≠ .ext φ := by
  intro φ z
  subst z
  cases k with
  | scr => exact h.elim
  | lst => cases h
  | tup => cases h
  | dK ks => obtain ⟨e, _⟩ := h; cases e
  | dT ks => obtain ⟨e, _⟩ := h; cases e
  | obj c fs => obtain ⟨dx, e, _⟩ := h; cases e
/-- what is owned stands -/
theorem Owns.there (h : Owns K cl F H vs ds S) : ∀ p ∈ S, ∃ k us o, H p = some o ∧ HOis cl k us o := by
  induction h with
  | nil => intro p hp; cases hp
  | hole _ ih => exact ih
  | sc s _ ih => exact ih
  | fro f _ ih => exact ih
  | own e ho _ _ ih1 ih2 =>
    intro p hp
    rcases List.mem_cons.mp hp with rfl | hp
    · exact ⟨_, _, _, e, ho⟩
    · rcases List.mem_append.mp hp with hp | hp
      · exact ih1 p hp
      · exact ih2 p hp
/-- marks do not matter to what is shared -/
theorem Reps.frz (h : Reps K cl F vs ds) : Reps K cl F vs (frzs ds) := by
  induction h with
  | nil => exact .nil
  | hole _ ih => exact .hole ih
  | @sc v d vs ds s _ ih => cases s <;> exact .sc (by constructor) ih
  | nd f _ _ ih1 ih2 => exact .nd f ih1 ih2
theorem Owns.reps (h : Owns K cl F H vs ds S) (e : Ex F F') (hs : ∀ p o, p ∈ S → H p = some o → F' p = some o) : Reps K cl F' vs ds := by
  induction h with
  | nil => exact .nil
  | hole _ ih => exact .hole (ih hs)
  | sc s _ ih => exact .sc s (ih hs)
  | fro f _ ih => exact (f.mono e).append (ih hs)
  | own e1 o _ _ ih1 ih2 => exact .nd (.of (hs _ _ (List.mem_cons_self ..) e1) o) (ih1 fun p u hp => hs p u (by simp [hp])) (ih2 fun p u hp => hs p u (by simp [hp]))
/-- what is shared is owned by nobody -/
theorem Owns.of_reps (h : Reps K cl F vs ds) (hf : ∀ d ∈ ds, fz d = true) : Owns K cl F H vs ds [] := by
  induction ds generalizing vs with
  | nil => cases h; exact .nil
  | cons d ds ih =>
    cases vs with
    | nil => have := h.length; simp at this
    | cons v vs =>
      obtain ⟨h1, h2⟩ := h.cons_inv
      have r := ih h2 fun d' hd => hf d' (by simp [hd])
      have hd := hf d (by simp)
      cases h1 with
      | hole _ => simp [fz] at hd
      | sc s _ => exact .sc s r
      | @nd p k m us xs _ _ f hu hn =>
        have : m = false := by simpa [fz] using hd
        subst this
        exact .fro (.nd f hu .nil) r
theorem Owns.to_reps (h : Owns K cl F H vs ds S) (hf : ∀ d ∈ ds, fz d = true) : Reps K cl F vs ds ∧ S = [] := by
  induction h with
  | nil => exact ⟨.nil, rfl⟩
  | hole _ ih => have := hf .hole (by simp); simp [fz] at this
  | sc s _ ih => obtain ⟨a, b⟩ := ih (fun d hd => hf d (by simp [hd])); exact ⟨.sc s a, b⟩
  | fro f _ ih => obtain ⟨a, b⟩ := ih (fun d hd => hf d (by simp [hd])); exact ⟨f.append a, b⟩
  | @own p k o us xs vs ds S1 S2 e1 o _ _ ih1 ih2 => have := hf (.nd k true xs) (by simp); simp [fz] at this
end

/-! ### the state of a body -/
def vals (σ : L2.St) : List V := σ.map (·.getD .non)
def NoTbl (o : HO) : Prop := ∀ ps, o ≠ .tbl ps
/-- σ, the slots, are the trees env; F: what is shared and stands still; S: what this body alone may change; T: the tables of code objects -/
structure Rel (K : PySem.W.Frag) (cl : Nat → Addr) (T : List (Addr × Str)) (F H : Hp) (σ : L2.St) (env : List D) (S : List Addr) : Prop where
  own : Owns K cl F H (vals σ) env S
  set : ∀ (i : Nat) (d : D), env[i]? = some d → d ≠ .hole → ∃ v, σ[i]? = some (some v)
  nd : S.Nodup
  dF : ∀ p ∈ S, F p = none
  ex : Ex F H
  nt : ∀ p o, F p = some o → NoTbl o
  tab : LamX.Tabs T H
/-- from one state to a later one: only what is in S is changed -/
structure Stp (F H : Hp) (S : List Addr) (F' H' : Hp) (S' : List Addr) : Prop where
  exF : Ex F F'
  keep : ∀ p o, H p = some o → NoTbl o → p ∉ S → H' p = some o
  dom : ∀ p, H' p = none → H p = none
  newF : ∀ p o, F' p = some o → F p = none → H p = none ∨ p ∈ S
  newS : ∀ p ∈ S', p ∈ S ∨ H p = none

section
variable {K : PySem.W.Frag} {cl : Nat → Addr} {T : List (Addr × Str)} {F F' F1 F2 H H' H1 H2 : Hp} {σ σ' τ : L2.St} {env env' es : List D} {S S' S1 S2 : List Addr} {v : V} {d : D}
theorem Stp.refl : Stp F H S F H S := ⟨Ex.refl F, fun _ _ h _ _ => h, fun _ h => h, fun p o h n => (by rw [h] at n; cases n), fun p hp => .inl hp⟩
theorem Stp.trans (a : Stp F H S F1 H1 S1) (b : Stp F1 H1 S1 F2 H2 S2) : Stp F H S F2 H2 S2 := by
  refine ⟨a.exF.trans b.exF, fun p o h n hs => b.keep p o (a.keep p o h n hs) n fun z => ?_, fun p h => a.dom p (b.dom p h), fun p o h n => ?_, fun p hp => ?_⟩
  · rcases a.newS p z with q | q
    · exact hs q
    · rw [h] at q; cases q
  · cases e : F1 p with
    | some u => exact a.newF p u e n
    | none =>
      rcases b.newF p o h e with q | q
      · exact .inl (a.dom p q)
      · exact (a.newS p q).symm
  · rcases b.newS p hp with q | q
    · exact a.newS p q
    · exact .inr (a.dom p q)
/-- S may be told greater -/
theorem Stp.wide (a : Stp F H S F1 H1 S1) (h : ∀ p ∈ S, p ∈ S2) : Stp F H S2 F1 H1 S1 :=
  ⟨a.exF, fun p o e n hs => a.keep p o e n fun z => hs (h p z), a.dom, fun p o e n => (a.newF p o e n).imp id (h p), fun p hp => (a.newS p hp).imp (h p) id⟩
theorem Stp.less (a : Stp F H S F1 H1 S1) (h : ∀ p ∈ S2, p ∈ S1) : Stp F H S F1 H1 S2 := ⟨a.exF, a.keep, a.dom, a.newF, fun p hp => a.newS p (h p hp)⟩
theorem vals_length (σ : L2.St) : (vals σ).length = σ.length := by simp [vals]
theorem vals_set (σ : L2.St) (i : Nat) (v : V) : vals (σ.set i (some v)) = (vals σ).set i v := by simp [vals, List.map_set]
theorem vals_append (σ τ : L2.St) : vals (σ ++ τ) = vals σ ++ vals τ := by simp [vals]
theorem vals_some (vs : List V) : vals (vs.map some) = vs := by simp [vals, List.map_map, Function.comp_def]
theorem Rel.len (r : Rel K cl T F H σ env S) : σ.length = env.length := by rw [← vals_length, r.own.length]
/-- ownership of another value is kept over a step -/
theorem Stp.other {vs : List V} {ds : List D} (st : Stp F H S F' H' S') (o : Owns K cl F H vs ds S1) (hd : ∀ p ∈ S1, p ∉ S) : Owns K cl F' H' vs ds S1 := by
  refine o.mono st.exF fun p u hp e => ?_
  obtain ⟨k, us, o', e', ho⟩ := o.there p hp
  rw [e] at e'; cases e'
  exact st.keep p u e ho.notbl (hd p hp)
/-- a state with something beside it, of which a part goes on -/
theorem Rel.frame {vs : List V} {ds : List D} (ow : Owns K cl F H vs ds S1) (hn : (S1 ++ S).Nodup) (hF : ∀ p ∈ S1, F p = none) (st : Stp F H S F' H' S') (r : Rel K cl T F' H' σ' env' S') : Rel K cl T F' H' (vs.map some ++ σ') (ds ++ env') (S1 ++ S') := by
  obtain ⟨n1, n2, n3⟩ := List.nodup_append.mp hn
  have dis : ∀ p ∈ S1, p ∉ S := fun p h1 h2 => n3 p h1 p h2 rfl
  have ow' := st.other ow dis
  have hH : ∀ p ∈ S1, ∃ o, H p = some o := fun p hp => by
    obtain ⟨_, _, o, e, _⟩ := ow.there p hp
    exact ⟨o, e⟩
  refine ⟨?_, ?_, List.nodup_append.mpr ⟨n1, r.nd, ?_⟩, ?_, r.ex, r.nt, r.tab⟩
  · rw [vals_append, vals_some]
    exact ow'.append r.own
  · intro i d e hd
    have hl : vs.length = ds.length := ow.length
    by_cases hi : i < ds.length
    · exact ⟨vs[i]'(by omega), by rw [List.getElem?_append_left (by simp; omega), List.getElem?_map, List.getElem?_eq_getElem (by omega)]; rfl⟩
    · rw [List.getElem?_append_right (by omega)] at e
      obtain ⟨v, hv⟩ := r.set _ d e hd
      exact ⟨v, by rw [List.getElem?_append_right (by simp; omega)]; simpa [hl] using hv⟩
  · intro a ha b hb e
    subst e
    rcases st.newS a hb with q | q
    · exact dis a ha q
    · obtain ⟨o, e⟩ := hH a ha
      rw [e] at q; cases q
  · intro p hp
    rcases List.mem_append.mp hp with hp | hp
    · cases e : F' p with
      | none => rfl
      | some o =>
        rcases st.newF p o e (hF p hp) with q | q
        · obtain ⟨o, e⟩ := hH p hp
          rw [e] at q; cases q
        · exact (dis p hp q).elim
    · exact r.dF p hp
/-- a part of a state -/
theorem Rel.drop1 (r : Rel K cl T F H (some v :: σ) (d :: env) S) : ∃ S1 S2, S = S1 ++ S2 ∧ Owns K cl F H [v] [d] S1 ∧ Rel K cl T F H σ env S2 := by
  obtain ⟨S1, S2, rfl, h1, h2⟩ := Owns.cons_inv (show Owns K cl F H (v :: vals σ) (d :: env) S from r.own)
  exact ⟨S1, S2, rfl, h1, h2, fun i d' e hd => r.set (i + 1) d' (by simpa using e) hd, (List.nodup_append.mp r.nd).2.1, fun p hp => r.dF p (by simp [hp]), r.ex, r.nt, r.tab⟩
theorem Rel.dropN {vs : List V} {ds : List D} (hl : vs.length = ds.length) (r : Rel K cl T F H (vs.map some ++ σ) (ds ++ env) S) : ∃ S1 S2, S = S1 ++ S2 ∧ Owns K cl F H vs ds S1 ∧ Rel K cl T F H σ env S2 := by
  have h := r.own
  rw [vals_append, vals_some] at h
  obtain ⟨S1, S2, rfl, h1, h2⟩ := Owns.app_inv hl h
  refine ⟨S1, S2, rfl, h1, h2, fun i d' e hd => ?_, (List.nodup_append.mp r.nd).2.1, fun p hp => r.dF p (by simp [hp]), r.ex, r.nt, r.tab⟩
  obtain ⟨v, hv⟩ := r.set (ds.length + i) d' (by rw [List.getElem?_append_right (by omega)]; simpa using e) hd
  exact ⟨v, by rw [List.getElem?_append_right (by simp; omega)] at hv; simpa [hl] using hv⟩
theorem Rel.empty {S : List Addr} (r : Rel K cl T F H σ env S) : Rel K cl T F H [] [] [] := ⟨.nil, fun i d e => (by simp at e), List.nodup_nil, fun p hp => (by cases hp), r.ex, r.nt, r.tab⟩
theorem Rel.disj (r : Rel K cl T F H σ env (S1 ++ S2)) : ∀ p ∈ S1, p ∉ S2 := fun p h1 h2 => (List.nodup_append.mp r.nd).2.2 p h1 p h2 rfl
/-- the slot's value -/
theorem Rel.slot {i : Nat} (r : Rel K cl T F H σ env S) (e : env[i]? = some d) (hd : d ≠ .hole) : ∃ v S1 Si S2, σ[i]? = some (some v) ∧ S = S1 ++ (Si ++ S2) ∧ Owns K cl F H ((vals σ).take i) (env.take i) S1 ∧ Owns K cl F H [v] [d] Si ∧ Owns K cl F H ((vals σ).drop (i + 1)) (env.drop (i + 1)) S2 := by
  obtain ⟨v, hv⟩ := r.set i d e hd
  obtain ⟨v', S1, Si, S2, e', hS, h1, h2, h3⟩ := r.own.split e
  have : v' = v := by
    unfold vals at e'
    rw [List.getElem?_map, hv] at e'
    simpa using e'.symm
  subst this
  exact ⟨v', S1, Si, S2, hv, hS, h1, h2, h3⟩
/-- storing an owned value into a slot -/
theorem Rel.store {i : Nat} (r : Rel K cl T F H (some v :: σ) (d :: env) S) (hi : i < env.length) : ∃ S', Rel K cl T F H (σ.set i (some v)) (env.set i d) S' ∧ ∀ p ∈ S', p ∈ S := by
  obtain ⟨S1, S2, rfl, h1, h2⟩ := r.drop1
  have hl := h2.len
  obtain ⟨v0, T1, Ti, T2, _, hT, o1, o2, o3⟩ := h2.own.split (d := env[i]) (List.getElem?_eq_getElem hi)
  refine ⟨T1 ++ (S1 ++ T2), ⟨by rw [vals_set]; exact Owns.join (by rw [vals_length]; omega) hi o1 h1 o3, fun j d' e hd => ?_, ?_, fun p hp => r.dF p ?_, r.ex, r.nt, r.tab⟩, fun p hp => ?_⟩
  · by_cases hij : i = j
    · subst hij
      exact ⟨v, by rw [List.getElem?_set_self (by omega)]⟩
    · rw [List.getElem?_set_ne hij] at e ⊢
      exact h2.set j d' e hd
  · have nd := r.nd
    rw [hT] at nd
    simp only [List.nodup_append, List.mem_append] at nd ⊢
    grind
  · rw [hT]; simp only [List.mem_append] at hp ⊢; grind
  · rw [hT]; simp only [List.mem_append] at hp ⊢; grind
/-- taking a slot's value out -/
theorem Rel.take {i : Nat} (r : Rel K cl T F H σ env S) (e : env[i]? = some d) (hd : d ≠ .hole) : ∃ v S', σ[i]? = some (some v) ∧ Rel K cl T F H (some v :: σ) (d :: env.set i .hole) S' ∧ ∀ p, p ∈ S' ↔ p ∈ S := by
  obtain ⟨v, S1, Si, S2, hv, hS, h1, h2, h3⟩ := r.slot e hd
  have hi : i < env.length := (List.getElem?_eq_some_iff.mp e).1
  have hl := r.len
  have ev : (vals σ).set i v = vals σ := by
    have hv' : i < σ.length := by omega
    have : σ[i] = some v := by rw [List.getElem?_eq_getElem hv'] at hv; simpa using hv
    rw [← vals_set, ← this, List.set_getElem_self]
  refine ⟨v, Si ++ (S1 ++ ([] ++ S2)), hv, ⟨?_, fun j d' e' hd' => ?_, ?_, fun p hp => r.dF p ?_, r.ex, r.nt, r.tab⟩, fun p => ?_⟩
  · show Owns K cl F H (v :: vals σ) (d :: env.set i .hole) _
    refine h2.cons ?_
    rw [← ev]
    exact Owns.join (by rw [vals_length]; omega) hi h1 (.hole .nil) h3
  · cases j with
    | zero => exact ⟨v, rfl⟩
    | succ j =>
      have e' : (env.set i .hole)[j]? = some d' := by simpa using e'
      by_cases hij : i = j
      · subst hij
        rw [List.getElem?_set_self hi] at e'
        cases e'
        exact (hd' rfl).elim
      · rw [List.getElem?_set_ne hij] at e'
        obtain ⟨v', hv'⟩ := r.set j d' e' hd'
        exact ⟨v', by simpa using hv'⟩
  · have nd := r.nd
    rw [hS] at nd
    simp only [List.nodup_append, List.mem_append, List.nil_append] at nd ⊢
    grind
  · rw [hS]; simp only [List.mem_append, List.nil_append] at hp ⊢; grind
  · rw [hS]; simp only [List.mem_append, List.nil_append]; grind
/-- a slot is forgotten -/
theorem Rel.kill {i : Nat} (r : Rel K cl T F H σ env S) : ∃ S', Rel K cl T F H σ (env.set i .hole) S' ∧ ∀ p ∈ S', p ∈ S := by
  by_cases hi : i < env.length
  · by_cases hd : env[i] = .hole
    · refine ⟨S, ?_, fun p h => h⟩
      have : env.set i .hole = env := by rw [← hd]; simp
      rw [this]; exact r
    · obtain ⟨v, S', _, r', hS⟩ := r.take (List.getElem?_eq_getElem hi) hd
      obtain ⟨S1, S2, rfl, _, r2⟩ := r'.drop1
      exact ⟨S2, r2, fun p hp => (hS p).mp (by simp [hp])⟩
  · rw [List.set_eq_of_length_le (by omega)]
    exact ⟨S, r, fun p h => h⟩
/-- a slot of a shared or plain value is read -/
theorem Rel.read {i : Nat} (r : Rel K cl T F H σ env S) (e : env[i]? = some d) (hf : fz d = true) : ∃ v, σ[i]? = some (some v) ∧ Rel K cl T F H (some v :: σ) (d :: env) S := by
  have hd : d ≠ .hole := by rintro rfl; simp [fz] at hf
  obtain ⟨v, S1, Si, S2, hv, hS, h1, h2, h3⟩ := r.slot e hd
  obtain ⟨h4, h5⟩ := h2.to_reps (by simpa using hf)
  refine ⟨v, hv, ⟨by subst h5; exact h2.cons r.own, fun j d' e' hd' => ?_, r.nd, r.dF, r.ex, r.nt, r.tab⟩⟩
  cases j with
  | zero => exact ⟨v, rfl⟩
  | succ j =>
    obtain ⟨v', hv'⟩ := r.set j d' (by simpa using e') hd'
    exact ⟨v', by simpa using hv'⟩
/-- what is owned becomes shared -/
theorem Rel.freeze (r : Rel K cl T F H (some v :: σ) (d :: env) S) : ∃ F' S', Rel K cl T F' H (some v :: σ) (frz d :: env) S' ∧ Reps K cl F' [v] [frz d] ∧ Stp F H S F' H S' := by
  obtain ⟨S1, S2, rfl, h1, h2⟩ := r.drop1
  let F' : Hp := fun a => if a ∈ S1 then H a else F a
  have exF : Ex F F' := fun a o e => by
    show (if a ∈ S1 then H a else F a) = some o
    split
    · exact r.ex a o e
    · exact e
  have rp : Reps K cl F' [v] [frz d] := by
    have := (h1.reps (F' := F') exF fun p o hp e => by show (if p ∈ S1 then H p else F p) = some o; rw [if_pos hp]; exact e).frz
    simpa [frzs] using this
  have dis := r.disj
  refine ⟨F', S2, ⟨?_, fun j d' e' hd' => ?_, h2.nd, fun p hp => ?_, fun a o e => ?_, fun p o e => ?_, r.tab⟩, rp, ⟨exF, fun p o h _ _ => h, fun p h => h, fun p o e n => ?_, fun p hp => .inl (by simp [hp])⟩⟩
  · have rest : Owns K cl F' H (vals σ) env S2 := h2.own.mono exF fun p o _ e => e
    by_cases hz : fz (frz d) = true
    · exact (Owns.of_reps (H := H) rp (by simpa using hz)).cons rest
    · cases d <;> simp [frz, fz] at hz
      exact .hole rest
  · cases j with
    | zero => exact ⟨v, rfl⟩
    | succ j =>
      obtain ⟨v', hv'⟩ := h2.set j d' (by simpa using e') hd'
      exact ⟨v', by simpa using hv'⟩
  · show (if p ∈ S1 then H p else F p) = none
    rw [if_neg (fun z => dis p z hp)]
    exact h2.dF p hp
  · have e : (if a ∈ S1 then H a else F a) = some o := e
    split at e
    · exact e
    · exact r.ex a o e
  · have e : (if p ∈ S1 then H p else F p) = some o := e
    split at e
    · rename_i hp
      obtain ⟨k, us, o', e', ho⟩ := h1.there p hp
      rw [e] at e'; cases e'
      exact ho.notbl
    · exact r.nt p o e
  · have e : (if p ∈ S1 then H p else F p) = some o := e
    split at e
    · rename_i hp
      exact .inr (by simp [hp])
    · rw [e] at n; cases n
/-- a new object, owned -/
theorem Rel.alloc {p : Addr} {o : HO} {k : Kd} {vs : List V} {ds : List D} (hl : vs.length = ds.length) (r : Rel K cl T F H (vs.map some ++ σ) (ds ++ env) S) (hp : H p = none) (ho : HOis cl k vs o) :
    Rel K cl T F (upd H p o) (some (.ref p) :: σ) (.nd k true ds :: env) (p :: S) ∧ Stp F H S F (upd H p o) (p :: S) := by
  have hF : F p = none := by
    cases e : F p with
    | none => rfl
    | some u => rw [r.ex p u e] at hp; cases hp
  obtain ⟨S1, S2, rfl, h1, h2⟩ := r.dropN hl
  have hS : p ∉ S1 ++ S2 := fun z => by
    have h := r.own
    obtain ⟨_, _, o', e, _⟩ := h.there p z
    rw [hp] at e; cases e
  have mv : ∀ {vs : List V} {ds : List D} {S : List Addr}, Owns K cl F H vs ds S → Owns K cl F (upd H p o) vs ds S := fun h => h.mono (Ex.refl F) fun q u _ e => Ex.new hp q u e
  refine ⟨⟨.own upd_same ho (mv h1) (mv h2.own), fun j d' e' hd' => ?_, List.nodup_cons.mpr ⟨hS, r.nd⟩, fun q hq => ?_, r.ex.trans (Ex.new hp), r.nt, r.tab.ext (Ex.new hp)⟩, ⟨Ex.refl F, fun q u e _ _ => Ex.new hp q u e, fun q e => ?_, fun q u e n => (by rw [e] at n; cases n), fun q hq => ?_⟩⟩
  · cases j with
    | zero => exact ⟨_, rfl⟩
    | succ j =>
      obtain ⟨v', hv'⟩ := h2.set j d' (by simpa using e') hd'
      exact ⟨v', by simpa using hv'⟩
  · rcases List.mem_cons.mp hq with rfl | hq
    · exact hF
    · exact r.dF q hq
  · by_cases hq : q = p
    · subst hq; exact hp
    · rw [upd_ne hq] at e; exact e
  · rcases List.mem_cons.mp hq with rfl | hq
    · exact .inr hp
    · exact .inl hq
/-- an owned object is changed -/
theorem Owns.own_inv {k : Kd} {xs : List D} (h : Owns K cl F H [v] [.nd k true xs] S) : ∃ p o us S1, v = .ref p ∧ H p = some o ∧ HOis cl k us o ∧ Owns K cl F H us xs S1 ∧ S = p :: S1 := by
  cases h with
  | own e ho h1 h2 =>
    cases h2
    exact ⟨_, _, _, _, rfl, e, ho, h1, by simp⟩
  | sc s _ => cases s
end
end Wap
set_option Elab.async false
set_option linter.all false
set_option maxRecDepth 100000
set_option maxHeartbeats 1000000
/-! W2: the small syntax and what it computes over trees. -/
namespace Wap
open PySem L2

def lim : Nat := 16777216

inductive Ty where
  | str | int | bool | list | tuple
  deriving DecidableEq
/-- operations that read their operands and make at most one new object -/
inductive Pr where
  | add | sub | mul | fdiv | mod | pow | neg
  | eq | ne | lt | le | gt | ge | isN | isnN | inn | nin
  | idx | slA | slB | rev
  | len | abs | int | str | list | tuple | sorted | sum | all | any | min2 | max2
  | isi (t : Ty)
  deriving DecidableEq
inductive Cn where
  | non | bl (b : Bool) | int (i : Int) | str (s : List Nat)
  deriving DecidableEq
def Cn.d : Cn → D
  | .non => .non | .bl b => .bl b | .int i => .int i | .str s => .str s
def Cn.v : Cn → V
  | .non => .non | .bl b => .bl b | .int i => .int i | .str s => .str (sOf s)
/-- what is walked -/
inductive ItK where
  | rng1 | rng2 | seq
  deriving DecidableEq
inductive Tg where
  | one (j : Nat) | tup (js : List Nat)
  deriving DecidableEq
/-- methods of lists that change them -/
inductive Mu where
  | append | pop | popAt | reverse | insert | clear
  deriving DecidableEq
/-- expressions. v: a slot read (twice told: what it holds must be shared); mv: taken out of its slot; rf: an argument that is lent and comes back -/
inductive Xp where
  | c (d : Cn) | g (x : Str) (d : Cn)
  | v (i : Nat) | mv (i : Nat) | rf (i : Nat)
  | pr (p : Pr) (es : List Xp)
  | and (a b : Xp) | or (a b : Xp) | not (a : Xp) | fz (a : Xp)
  | chn (p q : Pr) (a b c : Xp)
  | slc (a b c : Xp)
  | ite (c a b : Xp)
  | call (f : Nat) (es : List Xp)
  | mut (i : Nat) (m : Mu) (es : List Xp)
  | lst (es : List Xp) | tup (es : List Xp)
  | comp (tg : Tg) (k : ItK) (its : List Xp) (cond : List Xp) (elt : Xp) (vs : List Nat)
/-- statements. kil: slots are forgotten (nothing in the text) -/
inductive Sm where
  | asg (i : Nat) (e : Xp) | unp (js : List Nat) (e : Xp) | exs (e : Xp) | aug (i : Nat) (e : Xp)
  | ife (c : Xp) (a b : List Sm)
  | fors (tg : Tg) (k : ItK) (its : List Xp) (body : List Sm)
  | whl (c : Xp) (body : List Sm)
  | ret (e : Xp) | retN | rse (w : Nat) | brk | cnt | pas
  | kil (js : List Nat)

/-! ### operations on trees -/
def isSc : D → Bool
  | .non => true | .bl _ => true | .int _ => true | .str _ => true | _ => false
def strOkL (s : List Nat) : Bool := s.all (· < 1114112)
/-- data that == looks at: of at most n levels -/
def lay : Nat → D → Bool
  | _, .non => true | _, .bl _ => true | _, .int _ => true | _, .str s => strOkL s
  | n + 1, .nd .lst _ xs => xs.all (lay n)
  | n + 1, .nd .tup _ xs => xs.all (lay n)
  | _, _ => false
/-- == of data -/
def eqN : Nat → D → D → Bool
  | _, .non, .non => true
  | _, .bl a, .bl b => a == b
  | _, .bl a, .int j => (if a then 1 else 0) == j
  | _, .int i, .bl b => i == (if b then 1 else 0)
  | _, .int i, .int j => i == j
  | _, .str a, .str b => a == b
  | n + 1, .nd .lst _ xs, .nd .lst _ ys => xs.length == ys.length && (xs.zip ys).all fun p => eqN n p.1 p.2
  | n + 1, .nd .tup _ xs, .nd .tup _ ys => xs.length == ys.length && (xs.zip ys).all fun p => eqN n p.1 p.2
  | _, _, _ => false
def eqP : D → D → Option Bool
  | .int a, .int b => some (decide (a = b))
  | .str a, .str b => some (decide (a = b))
  | .bl a, .bl b => some (decide (a = b))
  | .non, .non => some true
  | a, b => if lay 60 a && lay 60 b then some (eqN 60 a b) else none
/-- == of flat values -/
def eqF : D → D → Bool
  | .non, .non => true
  | .bl a, .bl b => a == b
  | .bl a, .int j => (if a then 1 else 0) == j
  | .int i, .bl b => i == (if b then 1 else 0)
  | .int i, .int j => i == j
  | .str a, .str b => a == b
  | _, _ => false
def inP : D → D → Option Bool
  | .str [c], .str z => some (decide (c ∈ z))
  | x, .nd .lst _ xs => if isSc x && xs.all isSc then some (xs.any fun y => eqF y x) else none
  | x, .nd .tup _ xs => if isSc x && xs.all isSc then some (xs.any fun y => eqF y x) else none
  | _, _ => none
def cutL {α : Type} (xs : List α) (lo hi : Option Int) : List α := (xs.drop (HT.sIx xs.length 0 lo)).take (HT.sIx xs.length xs.length hi - HT.sIx xs.length 0 lo)
def cutP : D → Option Int → Option Int → Option D
  | .str s, lo, hi => if s.length ≤ lim then some (.str (cutL s lo hi)) else none
  | .nd .lst _ xs, lo, hi => if xs.all fz then some (.nd .lst true (cutL xs lo hi)) else none
  | .nd .scr _ xs, lo, hi => if xs.all fz then some (.nd .lst true (cutL xs lo hi)) else none
  | .nd .tup false xs, lo, hi => if xs.all fz then some (.nd .tup false (cutL xs lo hi)) else none
  | _, _, _ => none
def idxP : D → Int → Option D
  | .str s, i => if s.length ≤ lim then (atI s i).map fun c => .str [c] else none
  | .nd .lst _ xs, i => (atI xs i).bind fun d => if fz d then some d else none
  | .nd .scr _ xs, i => (atI xs i).bind fun d => if fz d then some d else none
  | .nd .tup _ xs, i => (atI xs i).bind fun d => if fz d then some d else none
  | _, _ => none
/-- the order of texts -/
def ltS : List Nat → List Nat → Bool
  | _, [] => false
  | [], _ :: _ => true
  | a :: s, b :: t => if a < b then true else if b < a then false else ltS s t
def insS (x : List Nat) : List (List Nat) → List (List Nat)
  | [] => [x]
  | y :: ys => if ltS y x then y :: insS x ys else x :: y :: ys
def sortS : List (List Nat) → List (List Nat)
  | [] => []
  | x :: xs => insS x (sortS xs)
def insI (x : Int) : List Int → List Int
  | [] => [x]
  | y :: ys => if y < x then y :: insI x ys else x :: y :: ys
def sortI : List Int → List Int
  | [] => []
  | x :: xs => insI x (sortI xs)
def intsOf : List D → Option (List Int)
  | [] => some []
  | .int i :: r => match intsOf r with | some ns => some (i :: ns) | none => none
  | _ => none
def strsOf : List D → Option (List (List Nat))
  | [] => some []
  | .str i :: r => match strsOf r with | some ns => some (i :: ns) | none => none
  | _ => none
def blsOf : List D → Option (List Bool)
  | [] => some []
  | .bl i :: r => match blsOf r with | some ns => some (i :: ns) | none => none
  | _ => none
def isiP : Ty → D → Option Bool
  | _, .hole => none
  | _, .nd .scr _ _ => none
  | _, .nd (.obj _ _) _ _ => none
  | .str, .str _ => some true
  | .str, _ => some false
  | .int, .int _ => some true | .int, .bl _ => some true
  | .int, _ => some false
  | .bool, .bl _ => some true
  | .bool, _ => some false
  | .list, .nd .lst _ _ => some true
  | .list, _ => some false
  | .tuple, .nd .tup _ _ => some true
  | .tuple, _ => some false
def prim : Pr → List D → Option D
  | .add, [.int a, .int b] => some (.int (a + b))
  | .add, [.str a, .str b] => if a.length + b.length ≤ lim then some (.str (a ++ b)) else none
  | .add, [.nd .lst _ xs, .nd .lst _ ys] => if xs.all fz && ys.all fz && decide (xs.length + ys.length ≤ lim) then some (.nd .lst true (xs ++ ys)) else none
  | .add, [.nd .tup false xs, .nd .tup false ys] => if xs.all fz && ys.all fz && decide (xs.length + ys.length ≤ lim) then some (.nd .tup false (xs ++ ys)) else none
  | .sub, [.int a, .int b] => some (.int (a - b))
  | .mul, [.int a, .int b] => if (-(2 ^ 64) < a ∧ a < 2 ^ 64) ∨ (-(2 ^ 64) < b ∧ b < 2 ^ 64) then some (.int (a * b)) else none
  | .mul, [.str s, .int n] => if 0 ≤ n ∧ n ≤ 100000 ∧ s.length = 1 then some (.str ((List.replicate n.toNat s).flatten)) else none
  | .mul, [.nd .lst _ xs, .int n] => if xs.all fz ∧ -(2 ^ 63) ≤ n ∧ n < 2 ^ 63 ∧ xs.length * n.toNat ≤ lim then some (.nd .lst true (List.replicate n.toNat xs).flatten) else none
  | .fdiv, [.int a, .int b] => if b ≠ 0 ∧ b.natAbs < 1073741824 then some (.int (a.fdiv b)) else none
  | .mod, [.int a, .int b] => if b ≠ 0 then some (.int (a.fmod b)) else none
  | .pow, [.int a, .int b] => if 0 ≤ b ∧ b ≤ 1000000 ∧ a.natAbs < 2 ^ 64 then some (.int (a ^ b.toNat)) else none
  | .neg, [.int a] => some (.int (-a))
  | .eq, [a, b] => (eqP a b).map .bl
  | .ne, [a, b] => (eqP a b).map fun r => .bl (!r)
  | .lt, [.int a, .int b] => some (.bl (decide (a < b)))
  | .le, [.int a, .int b] => some (.bl (decide (a ≤ b)))
  | .gt, [.int a, .int b] => some (.bl (decide (b < a)))
  | .ge, [.int a, .int b] => some (.bl (decide (b ≤ a)))
  | .isN, [.hole] => none
  | .isN, [.non] => some (.bl true)
  | .isN, [_] => some (.bl false)
  | .isnN, [.hole] => none
  | .isnN, [.non] => some (.bl false)
  | .isnN, [_] => some (.bl true)
  | .inn, [a, b] => (inP a b).map .bl
  | .nin, [a, b] => (inP a b).map fun r => .bl (!r)
  | .idx, [a, .int i] => idxP a i
  | .slA, [a, .int i] => cutP a (some i) none
  | .slB, [a, .int j] => cutP a none (some j)
  | .rev, [.nd .lst _ xs] => if xs.all fz then some (.nd .lst true xs.reverse) else none
  | .len, [.str s] => if s.length ≤ lim then some (.int s.length) else none
  | .len, [.nd .lst _ xs] => some (.int xs.length)
  | .len, [.nd .scr _ xs] => some (.int xs.length)
  | .len, [.nd .tup _ xs] => some (.int xs.length)
  | .abs, [.int a] => some (.int (if a < 0 then -a else a))
  | .int, [.int a] => some (.int a)
  | .int, [.bl b] => some (.int (if b then 1 else 0))
  | .list, [.nd .lst _ xs] => if xs.all fz then some (.nd .lst true xs) else none
  | .list, [.nd .tup _ xs] => if xs.all fz then some (.nd .lst true xs) else none
  | .tuple, [.nd .lst _ xs] => if xs.all fz then some (.nd .tup false xs) else none
  | .tuple, [.nd .tup false xs] => if xs.all fz then some (.nd .tup false xs) else none
  | .sum, [.nd .lst _ xs] => (intsOf xs).map fun ns => .int ns.sum
  | .all, [.nd .lst _ xs] => (blsOf xs).map fun bs => .bl (bs.all id)
  | .any, [.nd .lst _ xs] => (blsOf xs).map fun bs => .bl (bs.any id)
  | .min2, [.int a, .int b] => some (.int (if b < a then b else a))
  | .max2, [.int a, .int b] => some (.int (if b > a then b else a))
  | .isi t, [a] => (isiP t a).map .bl
  | _, _ => none
/-- a method that changes a list: its answer, the list behind it -/
def muF : Mu → List D → List D → Option (D × List D)
  | .append, xs, [d] => if xs.length < lim then some (.non, xs ++ [d]) else none
  | .pop, xs, [] => match xs[xs.length - 1]? with
    | some y => some (y, xs.dropLast)
    | none => none
  | .popAt, xs, [.int i] => if -(2 ^ 63) ≤ i ∧ i < 2 ^ 63 then (match ixN xs.length i with
    | some k => (xs[k]?).map fun y => (y, xs.eraseIdx k)
    | none => none) else none
  | .reverse, xs, [] => some (.non, xs.reverse)
  | .clear, _, [] => some (.non, [])
  | .insert, xs, [.int i, d] => if xs.length < lim ∧ 0 ≤ i ∧ i < 2 ^ 63 then some (.non, xs.take i.toNat ++ [d] ++ xs.drop i.toNat) else none
  | _, _, _ => none

/-! ### evaluation -/
inductive Out (α : Type) where
  | ok (a : α) (env : List D) | exc (w : Nat) (env : List D) | bad
def Out.bind {α β : Type} : Out α → (α → List D → Out β) → Out β
  | .ok a env, f => f a env
  | .exc w env, _ => .exc w env
  | .bad, _ => .bad
/-- the defs: what a call comes to (with the slots behind it), which parameters are never stored -/
structure Gam where
  run : Nat → List D → Out D
  fx : Nat → List Nat
/-- each argument that is lent goes to a parameter that is never stored -/
def refsOk (fx : List Nat) : Nat → List Xp → Bool
  | _, [] => true
  | j, .rf _ :: es => fx.contains j && refsOk fx (j + 1) es
  | j, _ :: es => refsOk fx (j + 1) es
/-- what was lent comes back -/
def putB : List Xp → List D → List D → List D
  | .rf i :: es, o :: outs, env => putB es outs (env.set i o)
  | _ :: es, _ :: outs, env => putB es outs env
  | _, _, env => env
def callFin (fx : List Nat) (es : List Xp) (env : List D) : Out D → Out D
  | .ok d outs => if refsOk fx 0 es then .ok d (putB es outs env) else .bad
  | .exc w outs => if refsOk fx 0 es then .exc w (putB es outs env) else .bad
  | .bad => .bad
def isHole : D → Bool
  | .hole => true | _ => false
def bindT (fx : List Nat) : Tg → D → List D → Option (List D)
  | .one j, x, env => if fx.contains j || !fz x || !(decide (j < env.length)) then none else some (env.set j x)
  | .tup js, .nd .tup false xs, env => if xs.length = js.length ∧ xs.all fz ∧ js.all (fun j => !fx.contains j && decide (j < env.length)) then some ((js.zip xs).foldl (fun e p => e.set p.1 p.2) env) else none
  | _, _, _ => none
def kills (js : List Nat) (env : List D) : List D := js.foldl (fun e j => e.set j .hole) env
/-- what a walk has at its beginning: numbers; things that stay; a slot -/
inductive ItD where
  | rng (lo : Int) (n : Nat) | fro (xs : List D) | slot (i : Nat) | slotT (i : Nat)
def itm : ItD → Nat → List D → Option (Option D)
  | .rng lo n, k, _ => some (if k < n then some (.int (lo + k)) else none)
  | .fro xs, k, _ => some xs[k]?
  | .slot i, k, env => match env[i]? with
    | some (.nd .lst _ xs) => some xs[k]?
    | some (.nd .scr _ xs) => some xs[k]?
    | _ => none
  | .slotT i, k, env => match env[i]? with
    | some (.nd .tup _ xs) => some xs[k]?
    | _ => none
@[irreducible] def small (i : Int) : Bool := decide (-(2 ^ 62) ≤ i) && decide (i < 2 ^ 62)
def seqOf : D → Option ItD
  | .str s => some (.fro (s.map fun c => .str [c]))
  | .nd .lst _ xs => if xs.all fz then some (.fro xs) else none
  | .nd .tup false xs => if xs.all fz then some (.fro xs) else none
  | _ => none
def seqSlot (i : Nat) : D → Option ItD
  | .str s => some (.fro (s.map fun c => .str [c]))
  | .nd .lst _ _ => some (.slot i)
  | .nd .scr _ _ => some (.slot i)
  | .nd .tup _ _ => some (.slotT i)
  | _ => none
def itFx (it : ItD) (fx : List Nat) : List Nat :=
  match it with | .slot i => i :: fx | .slotT i => i :: fx | _ => fx
/-- enough turns -/
@[irreducible] def fuel : Nat := 1000000000
/-- a comprehension's turns: the things made, the slots -/
def compL (item : Nat → List D → Option (Option D)) (turn : D → List D → Out (Option D)) : Nat → Nat → List D → List D → Out (List D)
  | 0, _, _, _ => .bad
  | f + 1, k, acc, env => match item k env with
    | none => .bad
    | some none => .ok acc env
    | some (some x) => match turn x env with
      | .ok (some d) env' => if acc.length < lim then compL item turn f (k + 1) (acc ++ [d]) env' else .bad
      | .ok none env' => compL item turn f (k + 1) acc env'
      | _ => .bad
/-- one turn: the target, the test, the thing -/
def turnC (vs : List Nat) (bind : D → List D → Option (List D)) (test elt : List D → Out D) (x : D) (e : List D) : Out (Option D) :=
  match bind x (e) with
  | some e1 => (test e1).bind fun d e2 => match d with
    | .bl true => (elt e2).bind fun y e3 => if isHole y then .bad else .ok (some y) (kills vs e3)
    | .bl false => .ok none (kills vs e2)
    | _ => .bad
  | none => .bad
def restore (vs : List Nat) (old env : List D) : List D := vs.foldl (fun e j => match old[j]? with | some d => e.set j d | none => e) env
def tgIn : Tg → List Nat → Bool
  | .one j, vs => vs.contains j
  | .tup js, vs => js.all vs.contains
def anyOwn (ds : List D) : Bool := ds.any fun d => !fz d

/-- the slot holds something; a list -/
def okSlot (i : Nat) (env : List D) : Bool := match env[i]? with | some d => !isHole d | none => false
def okLst (i : Nat) (env : List D) : Bool := match env[i]? with | some (.nd .lst _ _) => true | _ => false
mutual
def ev (G : Gam) : Xp → List Nat → List D → Out D
  | .c d, _, env => .ok d.d env
  | .g _ d, _, env => .ok d.d env
  | .v i, _, env => match env[i]? with
    | some d => if fz d then .ok d env else .bad
    | none => .bad
  | .mv i, _, env => match env[i]? with
    | some d => if isHole d then .bad else .ok d (env.set i .hole)
    | none => .bad
  | .rf _, _, _ => .bad
  | .pr p es, fx, env => (evA G es fx env).bind fun ds env' => match prim p ds with
    | some d => .ok d env'
    | none => .bad
  | .and a b, fx, env => (ev G a fx env).bind fun d env1 => match d with
    | .bl true => ev G b fx env1
    | .bl false => .ok (.bl false) env1
    | _ => .bad
  | .or a b, fx, env => (ev G a fx env).bind fun d env1 => match d with
    | .bl false => ev G b fx env1
    | .bl true => .ok (.bl true) env1
    | _ => .bad
  | .not a, fx, env => (ev G a fx env).bind fun d env1 => match d with
    | .bl b => .ok (.bl (!b)) env1
    | _ => .bad
  | .fz a, fx, env => (ev G a fx env).bind fun d env1 => .ok (frz d) env1
  | .chn p q a b c, fx, env => (ev G a fx env).bind fun x env1 => (ev G b fx env1).bind fun y env2 => match prim p [x, y] with
    | some (.bl true) => if fz y then (ev G c fx env2).bind fun z env3 => match prim q [y, z] with
      | some d => .ok d env3
      | none => .bad else .bad
    | some (.bl false) => .ok (.bl false) env2
    | _ => .bad
  | .slc (.v n) b c, fx, env => if okSlot n env then (ev G b fx env).bind fun i env1 => match i with
    | .int i => (ev G c fx env1).bind fun j env2 => match env2[n]?, j with
      | some x, .int j => match cutP x (some i) (some j) with
        | some d => .ok d env2
        | none => .bad
      | _, _ => .bad
    | _ => .bad else .bad
  | .slc a b c, fx, env => (ev G a fx env).bind fun x env1 => (ev G b fx env1).bind fun i env2 => match i with
    | .int i => (ev G c fx env2).bind fun j env3 => match j with
      | .int j => match cutP x (some i) (some j) with
        | some d => .ok d env3
        | none => .bad
      | _ => .bad
    | _ => .bad
  | .ite c a b, fx, env => (ev G c fx env).bind fun d env1 => match d with
    | .bl true => ev G a fx env1
    | .bl false => ev G b fx env1
    | _ => .bad
  | .call f es, fx, env => (evR G es fx env).bind fun ds env1 => callFin (G.fx f) es env1 (G.run f ds)
  | .mut i m es, fx, env => if okLst i env then (evR G es fx env).bind fun ds env1 => match env1[i]? with
    | some (.nd .lst true xs) => match muF m xs ds with
      | some (d, ys) => .ok d (env1.set i (.nd .lst true ys))
      | none => .bad
    | _ => .bad else .bad
  | .lst es, fx, env => (evR G es fx env).bind fun ds env1 => if ds.any isHole || !(decide (ds.length ≤ lim)) then .bad else .ok (.nd .lst true ds) env1
  | .tup es, fx, env => (evR G es fx env).bind fun ds env1 => if ds.any isHole || !(decide (ds.length ≤ lim)) then .bad else .ok (.nd .tup (anyOwn ds) ds) env1
  | .comp tg k its cond elt vs, fx, env =>
    if tgIn tg vs && vs.all (fun j => (match env[j]? with | some d => isHole d || fz d | none => false) && !fx.contains j) then
      (evI G k its fx env).bind fun it env0 =>
        (compL (itm it) (turnC vs (fun x e => bindT (itFx it fx) tg x (kills vs e)) (fun e => evC G cond (itFx it fx) e) (fun e => ev G elt (itFx it fx) e)) fuel 0 [] (kills vs env0)).bind fun acc env1 => .ok (.nd .lst true acc) (restore vs env env1)
    else .bad
/-- operands that are only read: a slot is looked at when the others are there -/
def evA (G : Gam) : List Xp → List Nat → List D → Out (List D)
  | [], _, env => .ok [] env
  | .v i :: es, fx, env => if okSlot i env then (evA G es fx env).bind fun ds env' => match env'[i]? with
    | some d => if isHole d then .bad else .ok (d :: ds) env'
    | none => .bad else .bad
  | e :: es, fx, env => (ev G e fx env).bind fun d env1 => (evA G es fx env1).bind fun ds env2 => .ok (d :: ds) env2
/-- arguments, things of a display -/
def evR (G : Gam) : List Xp → List Nat → List D → Out (List D)
  | [], _, env => .ok [] env
  | .rf i :: es, fx, env => if okSlot i env then (evR G es fx env).bind fun ds env' => match env'[i]? with
    | some d => if isHole d then .bad else .ok (d :: ds) (env'.set i .hole)
    | none => .bad else .bad
  | e :: es, fx, env => (ev G e fx env).bind fun d env1 => (evR G es fx env1).bind fun ds env2 => .ok (d :: ds) env2
/-- the tests of a comprehension: none or one -/
def evC (G : Gam) : List Xp → List Nat → List D → Out D
  | [], _, env => .ok (.bl true) env
  | [e], fx, env => ev G e fx env
  | _ :: _ :: _, _, _ => .bad
/-- what is walked -/
def evI (G : Gam) : ItK → List Xp → List Nat → List D → Out ItD
  | .rng1, [e], fx, env => (ev G e fx env).bind fun d env1 => match d with
    | .int n => if small n then .ok (.rng 0 n.toNat) env1 else .bad
    | _ => .bad
  | .rng2, [a, b], fx, env => (ev G a fx env).bind fun d env1 => (ev G b fx env1).bind fun d2 env2 => match d, d2 with
    | .int i, .int j => if small i && small j then .ok (.rng i (j - i).toNat) env2 else .bad
    | _, _ => .bad
  | .seq, [.v i], _, env => match env[i]? with
    | some d => match seqSlot i d with
      | some it => .ok it env
      | none => .bad
    | none => .bad
  | .seq, [e], fx, env => (ev G e fx env).bind fun d env1 => match seqOf d with
    | some it => .ok it env1
    | none => .bad
  | _, _, _, _ => .bad
end

/-! ### statements -/
inductive Fl where
  | nx (env : List D) | rt (d : D) (env : List D) | bk (env : List D) | ct (env : List D) | exc (w : Nat) (env : List D) | bad
def Out.fl {α : Type} : Out α → (α → List D → Fl) → Fl
  | .ok a env, f => f a env
  | .exc w env, _ => .exc w env
  | .bad, _ => .bad
def Fl.then : Fl → (List D → Fl) → Fl
  | .nx env, f => f env
  | o, _ => o
def loopL (item : Nat → List D → Option (Option D)) (body : D → List D → Fl) : Nat → Nat → List D → Fl
  | 0, _, _ => .bad
  | f + 1, k, env => match item k env with
    | none => .bad
    | some none => .nx env
    | some (some x) => match body x env with
      | .nx env' => loopL item body f (k + 1) env'
      | .ct env' => loopL item body f (k + 1) env'
      | .bk env' => .nx env'
      | o => o
def turnF (bind : D → List D → Option (List D)) (body : List D → Fl) (x : D) (e : List D) : Fl := match bind x e with
  | some e1 => body e1
  | none => .bad
def whlL (test : List D → Out D) (body : List D → Fl) : Nat → List D → Fl
  | 0, _ => .bad
  | f + 1, env => (test env).fl fun d env1 => match d with
    | .bl true => match body env1 with
      | .nx env' => whlL test body f env'
      | .ct env' => whlL test body f env'
      | .bk env' => .nx env'
      | o => o
    | .bl false => .nx env1
    | _ => .bad
def asgP (fx : List Nat) (i : Nat) (d : D) (env : List D) : Fl := if fx.contains i || isHole d || !(decide (i < env.length)) then .bad else .nx (env.set i d)
def unpQ (fx : List Nat) (js : List Nat) (o : Bool) (xs : List D) (env : List D) : Fl := if xs.length = js.length ∧ js.all (fun j => !fx.contains j && decide (j < env.length)) ∧ (o || xs.all fz) ∧ !xs.any isHole ∧ js.Nodup then .nx ((js.zip xs).foldl (fun e p => e.set p.1 p.2) env) else .bad
def unpP (fx : List Nat) (js : List Nat) : D → List D → Fl
  | .nd .tup o xs, env => unpQ fx js o xs env
  | .nd .lst o xs, env => unpQ fx js o xs env
  | _, _ => .bad
def augP (fx : List Nat) (i : Nat) (e : D) (env : List D) : Fl := match env[i]?, e with
  | some (.int a), .int b => asgP fx i (.int (a + b)) env
  | some (.str a), .str b => if a.length + b.length ≤ lim then asgP fx i (.str (a ++ b)) env else .bad
  | some (.nd .lst true xs), .nd .lst o ys => if (o || ys.all fz) && !ys.any isHole && decide (xs.length + ys.length ≤ lim) && !fx.contains i then .nx (env.set i (.nd .lst true (xs ++ ys))) else .bad
  | _, _ => .bad
mutual
def exec (G : Gam) : Sm → List Nat → List D → Fl
  | .asg i e, fx, env => (ev G e fx env).fl fun d env1 => asgP fx i d env1
  | .unp js e, fx, env => (ev G e fx env).fl fun d env1 => unpP fx js d env1
  | .exs e, fx, env => (ev G e fx env).fl fun _ env1 => .nx env1
  | .aug i e, fx, env => if okSlot i env then (ev G e fx env).fl fun d env1 => augP fx i d env1 else .bad
  | .ife c a b, fx, env => (ev G c fx env).fl fun d env1 => match d with
    | .bl true => execs G a fx env1
    | .bl false => execs G b fx env1
    | _ => .bad
  | .fors tg k its body, fx, env => (evI G k its fx env).fl fun it env0 =>
    loopL (itm it) (turnF (fun x e => bindT (itFx it fx) tg x e) (fun e => execs G body (itFx it fx) e)) fuel 0 env0
  | .whl c body, fx, env => whlL (fun e => ev G c fx e) (fun e => execs G body fx e) fuel env
  | .ret e, fx, env => (ev G e fx env).fl fun d env1 => if isHole d then .bad else .rt d env1
  | .retN, _, env => .rt .non env
  | .rse w, _, env => .exc w env
  | .brk, _, env => .bk env
  | .cnt, _, env => .ct env
  | .pas, _, env => .nx env
  | .kil js, _, env => .nx (kills js env)
def execs (G : Gam) : List Sm → List Nat → List D → Fl
  | [], _, env => .nx env
  | s :: ss, fx, env => (exec G s fx env).then fun env1 => execs G ss fx env1
end

/-- a def: its parameters' number, the number of its slots, the parameters that are never stored, its body -/
structure Dfn where
  np : Nat
  ns : Nat
  fx : List Nat
  body : List Sm
/-- what was lent, behind the call; the rest is forgotten -/
def outE (fx : List Nat) : Nat → Nat → List D → List D
  | _, 0, _ => []
  | j, n + 1, d :: env => (if fx.contains j then d else .hole) :: outE fx (j + 1) n env
  | _, _ + 1, [] => []
def flOut (fx : List Nat) (n : Nat) : Fl → Out D
  | .nx env => if n ≤ env.length then .ok .non (outE fx 0 n env) else .bad
  | .rt d env => if n ≤ env.length then .ok d (outE fx 0 n env) else .bad
  | .exc w env => if n ≤ env.length then .exc w (outE fx 0 n env) else .bad
  | _ => .bad
def startE (n : Nat) (ds : List D) : List D := ds ++ List.replicate (n - ds.length) .hole
def gam (P : Nat → Option Dfn) : Nat → Gam
  | 0 => ⟨fun _ _ => .bad, fun f => match P f with | some d => d.fx | none => []⟩
  | k + 1 => ⟨fun f ds => match P f with
    | some d => if ds.length = d.np ∧ d.np ≤ d.ns ∧ d.fx.all (· < d.np) then flOut d.fx d.np (execs (gam P k) d.body d.fx (startE d.ns ds)) else .bad
    | none => .bad, fun f => match P f with | some d => d.fx | none => []⟩
end Wap
set_option Elab.async false
set_option linter.all false
set_option maxRecDepth 100000
set_option maxHeartbeats 1000000
/-! W3: what the operations ask of values and heap, and that the trees answer. -/
namespace Wap
open PySem L2

def tyN : Ty → String
  | .str => "str" | .int => "int" | .bool => "bool" | .list => "list" | .tuple => "tuple"
def rMulS : R2 := fun x y H Q => ∃ (s : List Nat) (n : Int), x = .str (sOf s) ∧ y = .int n ∧ 0 ≤ n ∧ n ≤ 100000 ∧ s.length = 1 ∧ Q (.str (sOf (List.replicate n.toNat s).flatten)) H
def rSl (K : PySem.W.Frag) : V → Option Int → Option Int → Hp → VK → Prop := fun x lo hi H Q => (rSlL K x lo hi H Q ∨ rSlA K x lo hi H Q) ∨ rSlS x lo hi H Q
def rIx (K : PySem.W.Frag) : R2 := fun x y H Q => (rIxL K x y H Q ∨ rIxT K x y H Q) ∨ rIxS x y H Q
def rEqA (K : PySem.W.Frag) : R2 := fun x y H Q => rEq x y H Q ∨ rEqD K x y H Q
def rNeA (K : PySem.W.Frag) : R2 := fun x y H Q => rNe x y H Q ∨ rNeD K x y H Q
def rInA (K : PySem.W.Frag) : R2 := fun x y H Q => rInS x y H Q ∨ rIn K false x y H Q
def rNinA (K : PySem.W.Frag) : R2 := fun x y H Q => rNotInS x y H Q ∨ rIn K true x y H Q
def rAddA (K : PySem.W.Frag) : R2 := fun x y H Q => ((rI0 (fun i j => .int (i + j)) x y H Q ∨ rAddS x y H Q) ∨ rCat x y H Q) ∨ rCatA K x y H Q
def rMulA : R2 := fun x y H Q => (rI CMul (fun i j => .int (i * j)) x y H Q ∨ rMulS x y H Q) ∨ rRep x y H Q
def rLenA (K : PySem.W.Frag) : List V → Hp → VK → Prop := fun xs H Q => (∃ p ys, xs = [.ref p] ∧ (SqL K H p ys ∨ SqT K H p ys) ∧ Q (.int ys.length) H) ∨ ∃ z, xs = [.str z] ∧ z.length ≤ sizeLine ∧ Q (.int z.length) H
def rIntA : List V → Hp → VK → Prop := fun xs H Q => (∃ i, xs = [.int i] ∧ Q (.int i) H) ∨ ∃ k, xs = [.bl k] ∧ Q (.int (if k then 1 else 0)) H
def rListA (K : PySem.W.Frag) : List V → Hp → VK → Prop := fun xs H Q => ∃ p ys, xs = [.ref p] ∧ (SqL K H p ys ∨ SqT K H p ys) ∧ ∀ l, H l = none → Q (.ref l) (upd H l (.lst ys))
def rTupA (K : PySem.W.Frag) : List V → Hp → VK → Prop := fun xs H Q => ∃ p ys, xs = [.ref p] ∧ ((SqL K H p ys ∧ ∀ l, H l = none → Q (.ref l) (upd H l (.tup ys))) ∨ (SqT K H p ys ∧ Q (.ref p) H))
/-- the reading of an operation -/
def rP (K : PySem.W.Frag) : Pr → List V → Hp → VK → Prop
  | .add, [x, y], H, Q => rAddA K x y H Q
  | .sub, [x, y], H, Q => rI0 (fun i j => .int (i - j)) x y H Q
  | .mul, [x, y], H, Q => rMulA x y H Q
  | .fdiv, [x, y], H, Q => rI CDivN (fun i j => .int (i.fdiv j)) x y H Q
  | .mod, [x, y], H, Q => rI (fun _ j => j ≠ 0) (fun i j => .int (i.fmod j)) x y H Q
  | .pow, [x, y], H, Q => rI CPow (fun i j => .int (i ^ j.toNat)) x y H Q
  | .neg, [x], H, Q => rU (fun i => .int (-i)) x H Q
  | .eq, [x, y], H, Q => rEqA K x y H Q
  | .ne, [x, y], H, Q => rNeA K x y H Q
  | .lt, [x, y], H, Q => rI0 (fun i j => .bl (decide (i < j))) x y H Q
  | .le, [x, y], H, Q => rI0 (fun i j => .bl (decide (i ≤ j))) x y H Q
  | .gt, [x, y], H, Q => rI0 (fun i j => .bl (decide (j < i))) x y H Q
  | .ge, [x, y], H, Q => rI0 (fun i j => .bl (decide (j ≤ i))) x y H Q
  | .isN, [x], H, Q => Q (.bl (decide (x = .non))) H
  | .isnN, [x], H, Q => Q (.bl (!decide (x = .non))) H
  | .inn, [x, y], H, Q => rInA K x y H Q
  | .nin, [x, y], H, Q => rNinA K x y H Q
  | .idx, [x, y], H, Q => rIx K x y H Q
  | .slA, [x, y], H, Q => ∃ i, y = .int i ∧ rSl K x (some i) none H Q
  | .slB, [x, y], H, Q => ∃ i, y = .int i ∧ rSl K x none (some i) H Q
  | .rev, [x], H, Q => ∃ a xs, x = .ref a ∧ SqL K H a xs ∧ ∀ p, H p = none → Q (.ref p) (upd H p (.lst xs.reverse))
  | .len, xs, H, Q => rLenA K xs H Q
  | .abs, xs, H, Q => ∃ i, xs = [.int i] ∧ Q (.int (if i < 0 then -i else i)) H
  | .int, xs, H, Q => rIntA xs H Q
  | .list, xs, H, Q => rListA K xs H Q
  | .tuple, xs, H, Q => rTupA K xs H Q
  | .sum, xs, H, Q => rSum K xs H Q
  | .all, xs, H, Q => rAll K xs H Q
  | .any, xs, H, Q => rAny K xs H Q
  | .min2, xs, H, Q => ∃ i j, xs = [.int i, .int j] ∧ Q (.int (if j < i then j else i)) H
  | .max2, xs, H, Q => ∃ i j, xs = [.int i, .int j] ∧ Q (.int (if j > i then j else i)) H
  | .isi t, [x], H, Q => rIsi K [x, .ty (tyN t)] H Q
  | _, _, _, _ => False

/-- operands: each stands, whoever owns it -/
inductive Pks (K : PySem.W.Frag) (cl : Nat → Addr) (F H : Hp) : List V → List D → Prop where
  | nil : Pks K cl F H [] []
  | cons {v d vs ds S} : Owns K cl F H [v] [d] S → Pks K cl F H vs ds → Pks K cl F H (v :: vs) (d :: ds)
/-- what an operation gives: something plain; something shared; a new node of shared things -/
inductive PRes (K : PySem.W.Frag) (cl : Nat → Addr) (F H : Hp) : V → D → Hp → Prop where
  | sc {v d} : Sc v d → PRes K cl F H v d H
  | rd {v d} : Reps K cl F [v] [d] → fz d = true → PRes K cl F H v d H
  | new {p o k us xs m} : H p = none → HOis cl k us o → Reps K cl F us xs → xs.all fz = true → PRes K cl F H (.ref p) (.nd k m xs) (upd H p o)

section
variable {K : PySem.W.Frag} {cl : Nat → Addr} {T : List (Addr × Str)} {F F' H H' : Hp} {vs us : List V} {ds es : List D} {S S' : List Addr} {v : V} {d : D}
theorem Owns.sc_inv {d : D} (hd : isSc d = true) (h : Owns K cl F H [v] [d] S) : Sc v d := by
  cases h with
  | sc s _ => exact s
  | hole _ => simp [isSc] at hd
  | fro _ _ => simp [isSc] at hd
  | own _ _ _ _ => simp [isSc] at hd
theorem Owns.int_inv {i : Int} (h : Owns K cl F H [v] [.int i] S) : v = .int i := by
  have := h.sc_inv rfl; cases this; rfl
theorem Owns.str_inv {s : List Nat} (h : Owns K cl F H [v] [.str s] S) : v = .str (sOf s) := by
  have := h.sc_inv rfl; cases this; rfl
theorem Owns.bl_inv {b : Bool} (h : Owns K cl F H [v] [.bl b] S) : v = .bl b := by
  have := h.sc_inv rfl; cases this; rfl
theorem Owns.non_inv (h : Owns K cl F H [v] [.non] S) : v = .non := by
  have := h.sc_inv rfl; cases this; rfl
theorem Fis.nonhole {p : Addr} {k : Kd} (h : Fis K cl F p k us) : True := trivial
/-- a node that is read -/
theorem Owns.node_inv {k : Kd} {o : Bool} {xs : List D} (ex : Wap.Ex F H) (h : Owns K cl F H [v] [.nd k o xs] S) :
    ∃ p us, v = .ref p ∧ Fis K cl H p k us ∧ us.length = xs.length ∧ (∀ (i : Nat) (d : D), xs[i]? = some d → fz d = true → ∃ u, us[i]? = some u ∧ Reps K cl F [u] [d]) ∧ (xs.all fz = true → Reps K cl F us xs) ∧ (o = true → ∃ S1, Owns K cl F H us xs S1) := by
  cases h with
  | sc s _ => cases s
  | fro f _ =>
    cases f with
    | sc s _ => cases s
    | nd f1 f2 f3 => exact ⟨_, _, rfl, f1.mono ex, f2.length, fun i d e _ => f2.get e, fun _ => f2, fun z => by cases z⟩
  | @own p k o us xs _ _ S1 S2 e ho h1 h2 =>
    refine ⟨p, us, rfl, .of e ho, h1.length, fun i d e hd => ?_, fun hz => (h1.to_reps (by simpa using hz)).1, fun _ => ⟨S1, h1⟩⟩
    obtain ⟨u, _, Si, _, e1, _, _, h3, _⟩ := h1.split e
    exact ⟨u, e1, (h3.to_reps (by simpa using hd)).1⟩
theorem Reps.scs (h : Reps K cl F vs ds) (hs : ds.all isSc = true) : Paired Sc vs ds := by
  induction h with
  | nil => exact .nil
  | hole _ ih => simp [isSc] at hs
  | sc s _ ih => simp at hs; exact .cons s (ih (by simpa using hs.2))
  | nd f _ _ ih1 ih2 => simp [isSc] at hs
theorem isSc_fz {ds : List D} (h : ds.all isSc = true) : ds.all fz = true := by
  rw [List.all_eq_true] at h ⊢
  intro d hd
  have := h d hd
  cases d <;> simp [isSc, fz] at this ⊢
theorem sizeLim : lim = sizeLine := by rw [sizeLine_eq]; rfl

/-! ### == -/
mutual
def toPy : D → PyData
  | .non => .none | .bl b => .bool b | .int i => .int i | .str s => .str (sOf s)
  | .nd .lst _ xs => .list (toPys xs)
  | .nd .tup _ xs => .tuple (toPys xs)
  | _ => .none
def toPys : List D → List PyData
  | [] => []
  | d :: ds => toPy d :: toPys ds
end
theorem Reps.dp (ex : Wap.Ex F H) (h : Reps K cl F vs ds) : ∀ n, ds.all (lay n) = true → DpAll K H vs (toPys ds) := by
  induction h with
  | nil => intro n _; exact .nil
  | hole _ ih => intro n hn; simp [lay] at hn
  | sc s _ ih =>
    intro n hn
    simp only [List.all_cons, Bool.and_eq_true] at hn
    refine .cons ?_ (ih n hn.2)
    cases s <;> simp only [toPy] <;> constructor
  | @nd p k m us xs vs ds f _ _ ih1 ih2 =>
    intro n hn
    simp only [List.all_cons, Bool.and_eq_true] at hn
    refine .cons ?_ (ih2 n hn.2)
    cases k <;> cases n <;> simp only [lay] at hn <;> try exact absurd hn.1 Bool.false_ne_true
    · exact .lst (.inl (.inl (ex _ _ f))) (ih1 _ hn.1)
    · exact .tup (Wap.Ex.sqt ex f) (ih1 _ hn.1)
theorem Owns.dp (ex : Wap.Ex F H) (h : Owns K cl F H vs ds S) : ∀ n, ds.all (lay n) = true → DpAll K H vs (toPys ds) := by
  induction h with
  | nil => intro n _; exact .nil
  | hole _ ih => intro n hn; simp [lay] at hn
  | sc s _ ih =>
    intro n hn
    simp only [List.all_cons, Bool.and_eq_true] at hn
    refine .cons ?_ (ih n hn.2)
    cases s <;> simp only [toPy] <;> constructor
  | fro f _ ih =>
    intro n hn
    simp only [List.all_cons, Bool.and_eq_true] at hn
    have z := f.dp ex n (by simpa using hn.1)
    cases z with
    | cons z _ => exact .cons z (ih n hn.2)
  | @own p k o us xs vs ds S1 S2 e ho _ _ ih1 ih2 =>
    intro n hn
    simp only [List.all_cons, Bool.and_eq_true] at hn
    refine .cons ?_ (ih2 n hn.2)
    cases k <;> cases n <;> simp only [lay] at hn <;> try exact absurd hn.1 Bool.false_ne_true
    · cases ho; exact .lst (.inl (.inl e)) (ih1 _ hn.1)
    · cases ho; exact .tup (.inl (.inl e)) (ih1 _ hn.1)
theorem toPys_all {f : PyData → Bool} {g : List PyData → Bool} (h0 : g [] = true) (h1 : ∀ x xs, g (x :: xs) = (f x && g xs)) (ds : List D) (h : ∀ d ∈ ds, f (toPy d) = true) : g (toPys ds) = true := by
  induction ds with
  | nil => exact h0
  | cons d ds ih =>
    simp only [toPys, h1, Bool.and_eq_true]
    exact ⟨h d (by simp), ih fun x hx => h x (by simp [hx])⟩
theorem lay_can : ∀ (n : Nat) (d : D), lay n d = true → (toPy d).canLay0 = true
  | n, .non, _ => rfl
  | n, .bl _, _ => rfl
  | n, .int _, _ => rfl
  | n, .str s, h => by
    simp only [toPy, PyData.canLay0, PyData.strOk]
    have h : strOkL s = true := by cases n <;> exact h
    unfold strOkL at h
    simpa using h
  | 0, .nd .lst _ xs, h => by simp [lay] at h
  | 0, .nd .tup _ xs, h => by simp [lay] at h
  | n + 1, .nd .lst _ xs, h => by
    simp only [lay, List.all_eq_true] at h
    simp only [toPy, PyData.canLay0]
    exact toPys_all rfl (fun x xs => by simp [PyData.canLayAll0]) xs fun d hd => lay_can n d (h d hd)
  | n + 1, .nd .tup _ xs, h => by
    simp only [lay, List.all_eq_true] at h
    simp only [toPy, PyData.canLay0]
    exact toPys_all rfl (fun x xs => by simp [PyData.canLayAll0]) xs fun d hd => lay_can n d (h d hd)
  | n, .nd .scr _ _, h => by cases n <;> simp [lay] at h
  | n, .nd (.dK _) _ _, h => by cases n <;> simp [lay] at h
  | n, .nd (.dT _) _ _, h => by cases n <;> simp [lay] at h
  | n, .nd (.obj _ _) _ _, h => by cases n <;> simp [lay] at h
  | n, .hole, h => by cases n <;> simp [lay] at h
theorem depthAll_le {m : Nat} (ds : List D) (h : ∀ d ∈ ds, (toPy d).depth ≤ m) : PyData.depthAll (toPys ds) ≤ m := by
  induction ds with
  | nil => simp [toPys, PyData.depthAll]
  | cons d ds ih =>
    simp only [toPys, PyData.depthAll]
    exact Nat.max_le.mpr ⟨h d (by simp), ih fun x hx => h x (by simp [hx])⟩
theorem lay_depth : ∀ (n : Nat) (d : D), lay n d = true → (toPy d).depth ≤ n
  | n, .non, _ => by simp [toPy, PyData.depth]
  | n, .bl _, _ => by simp [toPy, PyData.depth]
  | n, .int _, _ => by simp [toPy, PyData.depth]
  | n, .str s, h => by simp [toPy, PyData.depth]
  | 0, .nd .lst _ xs, h => by simp [lay] at h
  | 0, .nd .tup _ xs, h => by simp [lay] at h
  | n + 1, .nd .lst _ xs, h => by
    simp only [lay, List.all_eq_true] at h
    simp only [toPy, PyData.depth]
    exact Nat.succ_le_succ (depthAll_le xs fun d hd => lay_depth n d (h d hd))
  | n + 1, .nd .tup _ xs, h => by
    simp only [lay, List.all_eq_true] at h
    simp only [toPy, PyData.depth]
    exact Nat.succ_le_succ (depthAll_le xs fun d hd => lay_depth n d (h d hd))
  | n, .nd .scr _ _, h => by cases n <;> simp [lay] at h
  | n, .nd (.dK _) _ _, h => by cases n <;> simp [lay] at h
  | n, .nd (.dT _) _ _, h => by cases n <;> simp [lay] at h
  | n, .nd (.obj _ _) _ _, h => by cases n <;> simp [lay] at h
  | n, .hole, h => by cases n <;> simp [lay] at h
theorem lay_shaped {d : D} (h : lay 60 d = true) : SeqAt.shaped (toPy d) = true := by
  unfold SeqAt.shaped
  rw [Bool.and_eq_true]
  exact ⟨lay_can 60 d h, decide_eq_true (Nat.le_trans (lay_depth 60 d h) (by decide))⟩
theorem sOf_inj {a b : List Nat} : (sOf a = sOf b) ↔ a = b := by
  constructor
  · intro h
    have h1 : (sOf a).cps = (sOf b).cps := congrArg Str.cps h
    have : a.toArray.toList = b.toArray.toList := congrArg Array.toList h1
    simpa using this
  · rintro rfl; rfl
theorem eqvAll_zip {n : Nat} : ∀ (xs ys : List D), (∀ x ∈ xs, ∀ y ∈ ys, PyData.eqv (toPy x) (toPy y) = eqN n x y) → PyData.eqvAll (toPys xs) (toPys ys) = (xs.length == ys.length && (xs.zip ys).all fun p => eqN n p.1 p.2)
  | [], [], _ => rfl
  | [], y :: ys, _ => by simp [toPys, PyData.eqvAll]
  | x :: xs, [], _ => by simp [toPys, PyData.eqvAll]
  | x :: xs, y :: ys, h => by
    simp only [toPys, PyData.eqvAll, List.zip_cons_cons, List.all_cons, List.length_cons]
    rw [h x (by simp) y (by simp), eqvAll_zip xs ys fun a ha b hb => h a (by simp [ha]) b (by simp [hb])]
    cases eqN n x y <;> simp
theorem eqN_eqv : ∀ (n : Nat) (a b : D), lay n a = true → lay n b = true → PyData.eqv (toPy a) (toPy b) = eqN n a b := by
  intro n
  induction n with
  | zero =>
    intro a b ha hb
    cases a <;> cases b <;> simp [lay] at ha hb <;> simp [toPy, PyData.eqv, eqN]
    rw [Bool.eq_iff_iff]; simp [sOf_inj]
  | succ n ih =>
    intro a b ha hb
    cases a with
    | nd k o xs =>
      cases k <;> simp only [lay] at ha <;> try exact absurd ha Bool.false_ne_true
      all_goals
        cases b with
        | nd k2 o2 ys =>
          cases k2 <;> simp only [lay] at hb <;> try exact absurd hb Bool.false_ne_true
          all_goals simp only [toPy, PyData.eqv, eqN]
          all_goals
            simp only [List.all_eq_true] at ha hb
            exact eqvAll_zip xs ys fun x hx y hy => ih x y (ha x hx) (hb y hy)
        | hole => simp [lay] at hb
        | _ => simp [toPy, PyData.eqv, eqN]
    | hole => simp [lay] at ha
    | non => cases b with
      | nd k2 o2 ys => cases k2 <;> simp only [lay] at hb <;> first | exact absurd hb Bool.false_ne_true | simp [toPy, PyData.eqv, eqN]
      | hole => simp [lay] at hb
      | _ => simp [toPy, PyData.eqv, eqN]
    | bl _ => cases b with
      | nd k2 o2 ys => cases k2 <;> simp only [lay] at hb <;> first | exact absurd hb Bool.false_ne_true | simp [toPy, PyData.eqv, eqN]
      | hole => simp [lay] at hb
      | _ => simp [toPy, PyData.eqv, eqN]
    | int _ => cases b with
      | nd k2 o2 ys => cases k2 <;> simp only [lay] at hb <;> first | exact absurd hb Bool.false_ne_true | simp [toPy, PyData.eqv, eqN]
      | hole => simp [lay] at hb
      | _ => simp [toPy, PyData.eqv, eqN]
    | str s => cases b with
      | nd k2 o2 ys => cases k2 <;> simp only [lay] at hb <;> first | exact absurd hb Bool.false_ne_true | simp [toPy, PyData.eqv, eqN]
      | hole => simp [lay] at hb
      | str t => simp only [toPy, PyData.eqv, eqN]; rw [Bool.eq_iff_iff]; simp [sOf_inj]
      | _ => simp [toPy, PyData.eqv, eqN]
end
end Wap
set_option Elab.async false
set_option linter.all false
set_option maxRecDepth 100000
set_option maxHeartbeats 1000000
/-! W4: the operations are sound. -/
namespace Wap
open PySem L2
section
variable {K : PySem.W.Frag} {cl : Nat → Addr} {T : List (Addr × Str)} {F F' H H' : Hp} {vs us : List V} {ds es : List D} {S S' S1 S2 : List Addr} {v u w : V} {a b d : D} {Q : VK}
theorem Pks.one (h : Pks K cl F H vs [a]) : ∃ v S, vs = [v] ∧ Owns K cl F H [v] [a] S := by
  cases h with
  | cons h1 h2 => cases h2; exact ⟨_, _, rfl, h1⟩
theorem Pks.two (h : Pks K cl F H vs [a, b]) : ∃ v u S T, vs = [v, u] ∧ Owns K cl F H [v] [a] S ∧ Owns K cl F H [u] [b] T := by
  cases h with
  | cons h1 h2 =>
    obtain ⟨u, T, rfl, h3⟩ := h2.one
    exact ⟨_, _, _, _, rfl, h1, h3⟩
/-- a list (or a tuple, or the script) that is read -/
theorem Owns.lst_inv {o : Bool} {xs : List D} (ex : Wap.Ex F H) (h : Owns K cl F H [v] [.nd .lst o xs] S) : ∃ p us, v = .ref p ∧ H p = some (.lst us) ∧ us.length = xs.length ∧ (xs.all fz = true → Reps K cl F us xs) := by
  obtain ⟨p, us, e, f, l, _, g, _⟩ := h.node_inv ex
  exact ⟨p, us, e, f, l, g⟩
theorem Owns.tup_inv {o : Bool} {xs : List D} (ex : Wap.Ex F H) (h : Owns K cl F H [v] [.nd .tup o xs] S) : ∃ p us, v = .ref p ∧ SqT K H p us ∧ us.length = xs.length ∧ (xs.all fz = true → Reps K cl F us xs) := by
  obtain ⟨p, us, e, f, l, _, g, _⟩ := h.node_inv ex
  exact ⟨p, us, e, f, l, g⟩
theorem Owns.scr_inv {o : Bool} {xs : List D} (ex : Wap.Ex F H) (h : Owns K cl F H [v] [.nd .scr o xs] S) : ∃ p us, v = .ref p ∧ SqL K H p us ∧ us.length = xs.length ∧ (xs.all fz = true → Reps K cl F us xs) := by
  obtain ⟨p, us, e, f, l, _, g, _⟩ := h.node_inv ex
  exact ⟨p, us, e, f, l, g⟩
theorem Owns.ref_inv {k : Kd} {o : Bool} {xs : List D} (h : Owns K cl F H [v] [.nd k o xs] S) : ∃ p, v = .ref p := by
  cases h with
  | sc s _ => cases s
  | fro f _ => cases f with
    | sc s _ => cases s
    | nd _ _ _ => exact ⟨_, rfl⟩
  | own _ _ _ _ => exact ⟨_, rfl⟩
theorem Reps.take (h : Reps K cl F vs ds) (n : Nat) : Reps K cl F (vs.take n) (ds.take n) := by
  induction n generalizing vs ds with
  | zero => simp; exact .nil
  | succ n ih =>
    cases h with
    | nil => exact .nil
    | hole h => exact .hole (ih h)
    | sc s h => exact .sc s (ih h)
    | nd f h1 h2 => exact .nd f h1 (ih h2)
theorem Reps.drop (h : Reps K cl F vs ds) (n : Nat) : Reps K cl F (vs.drop n) (ds.drop n) := by
  induction n generalizing vs ds with
  | zero => exact h
  | succ n ih =>
    cases h with
    | nil => exact .nil
    | hole h => exact ih h
    | sc s h => exact ih h
    | nd f h1 h2 => exact ih h2
theorem Reps.reverse (h : Reps K cl F vs ds) : Reps K cl F vs.reverse ds.reverse := by
  induction ds generalizing vs with
  | nil => cases h; exact .nil
  | cons d ds ih =>
    cases vs with
    | nil => have := h.length; simp at this
    | cons v vs =>
      obtain ⟨h1, h2⟩ := h.cons_inv
      simpa using (ih h2).append h1
theorem Reps.replicate (h : Reps K cl F vs ds) (n : Nat) : Reps K cl F (List.replicate n vs).flatten (List.replicate n ds).flatten := by
  induction n with
  | zero => exact .nil
  | succ n ih => simpa [List.replicate_succ] using h.append ih
theorem Reps.cut (h : Reps K cl F vs ds) (lo hi : Option Int) : Reps K cl F (cutV vs lo hi) (cutL ds lo hi) := by
  unfold cutV cutL
  rw [h.length]
  exact (h.drop _).take _
theorem all_cut {ds : List D} (h : ds.all fz = true) (lo hi : Option Int) : (cutL ds lo hi).all fz = true := by
  rw [List.all_eq_true] at h ⊢
  intro d hd
  exact h d (List.mem_of_mem_drop (List.mem_of_mem_take hd))
theorem length_sOf (s : List Nat) : (sOf s).length = s.length := by simp [sOf, Str.length]
theorem cps_sOf (s : List Nat) : (sOf s).cps.toList = s := by simp [sOf]
theorem sOf_app (a b : List Nat) : sOf a ++ sOf b = sOf (a ++ b) := by
  show Str.append (sOf a) (sOf b) = _
  simp [Str.append, sOf]

/-- a new node out of shared things -/
theorem pnew {p : Addr} {o : HO} {k : Kd} {xs : List D} {m : Bool} (hp : H p = none) (ho : HOis cl k us o) (r : Reps K cl F us xs) (hz : xs.all fz = true) (k' : ∀ v H', PRes K cl F H v (.nd k m xs) H' → Q v H') : Q (.ref p) (upd H p o) := k' _ _ (.new hp ho r hz)

theorem cut_sound {lo hi : Option Int} (ex : Wap.Ex F H) (h : Owns K cl F H [v] [a] S) (e : cutP a lo hi = some d) (k : ∀ v H', PRes K cl F H v d H' → Q v H') : rSl K v lo hi H Q := by
  unfold cutP at e
  split at e
  · split at e
    · rename_i s hz
      cases e
      have := h.str_inv; subst this
      refine .inr ⟨_, rfl, by rw [length_sOf, ← sizeLim]; exact hz, ?_⟩
      have : cutS (sOf s) lo hi = sOf (cutL s lo hi) := by
        unfold cutS cutL
        rw [length_sOf, cps_sOf]
      rw [this]
      exact k _ _ (.sc (.str _))
    · cases e
  · split at e
    · rename_i hz
      cases e
      obtain ⟨p, us, rfl, hH, _, g⟩ := h.lst_inv ex
      refine .inl (.inl ⟨p, us, rfl, .inl (.inl hH), fun q hq => pnew (k := .lst) hq rfl ((g hz).cut _ _) (all_cut hz _ _) k⟩)
    · cases e
  · split at e
    · rename_i hz
      cases e
      obtain ⟨p, us, rfl, hH, _, g⟩ := h.scr_inv ex
      refine .inl (.inl ⟨p, us, rfl, hH, fun q hq => pnew (k := .lst) hq rfl ((g hz).cut _ _) (all_cut hz _ _) k⟩)
    · cases e
  · split at e
    · rename_i xs hz
      cases e
      obtain ⟨p, us, rfl, hH, hl, g⟩ := h.tup_inv ex
      refine .inl (.inr ⟨p, us, rfl, hH, fun hw => ?_, fun _ q hq => pnew (k := .tup) hq rfl ((g hz).cut _ _) (all_cut hz _ _) k⟩)
      have e1 : cutL xs lo hi = xs := by
        unfold cutL
        rw [hl] at hw
        rw [hw.1, hw.2]
        simp
      rw [e1] at k
      exact k _ _ (.rd (h.to_reps (by simp [fz])).1 rfl)
    · cases e
  · cases e
theorem idx_sound {i : Int} (ex : Wap.Ex F H) (h : Owns K cl F H [v] [a] S) (e : idxP a i = some d) (k : ∀ v H', PRes K cl F H v d H' → Q v H') : rIx K v (.int i) H Q := by
  unfold idxP at e
  have node : ∀ {kd : Kd} {o : Bool} {xs : List D}, Owns K cl F H [v] [.nd kd o xs] S → ((atI xs i).bind fun d => if fz d = true then some d else none) = some d → ∃ p us u, v = .ref p ∧ Fis K cl H p kd us ∧ atI us i = some u ∧ Q u H := by
    intro kd o xs h e
    obtain ⟨p, us, ev, f, l, g, _, _⟩ := h.node_inv ex
    unfold atI at e
    cases hx : ixN xs.length i with
    | none => rw [hx] at e; simp at e
    | some j =>
      rw [hx] at e
      simp only [Option.bind_some] at e
      cases hj : xs[j]? with
      | none => rw [hj] at e; simp at e
      | some d' =>
        rw [hj] at e
        simp only [Option.bind_some] at e
        split at e
        · rename_i hf
          cases e
          obtain ⟨u, hu, rp⟩ := g j d hj hf
          refine ⟨p, us, u, ev, f, ?_, k _ _ (.rd rp hf)⟩
          unfold atI
          rw [l, hx]
          exact hu
        · cases e
  split at e
  · rename_i s
    split at e
    · rename_i hz
      have := h.str_inv; subst this
      rw [Option.map_eq_some_iff] at e
      obtain ⟨c, hc, rfl⟩ := e
      refine .inr ⟨_, i, c, rfl, rfl, by rw [length_sOf, ← sizeLim]; exact hz, by rw [cps_sOf]; exact hc, ?_⟩
      exact k _ _ (.sc (.str [c]))
    · cases e
  · obtain ⟨p, us, u, rfl, f, hu, q⟩ := node h e
    exact .inl (.inl ⟨p, us, i, u, rfl, rfl, .inl (.inl f), hu, q⟩)
  · obtain ⟨p, us, u, rfl, f, hu, q⟩ := node h e
    exact .inl (.inl ⟨p, us, i, u, rfl, rfl, f, hu, q⟩)
  · obtain ⟨p, us, u, rfl, f, hu, q⟩ := node h e
    exact .inl (.inr ⟨p, us, i, u, rfl, rfl, f, hu, q⟩)
  · cases e
theorem Owns.dp1 {n : Nat} (ex : Wap.Ex F H) (h : Owns K cl F H [v] [a] S) (hl : lay n a = true) : Dp K H v (toPy a) := by
  have := h.dp ex n (by simpa using hl)
  cases this with
  | cons z _ => exact z
theorem eq_sound {r : Bool} (ex : Wap.Ex F H) (h1 : Owns K cl F H [v] [a] S) (h2 : Owns K cl F H [u] [b] S') (e : eqP a b = some r) :
    (scal v u = true ∧ decide (v = u) = r) ∨ ∃ d e, Dp K H v d ∧ Dp K H u e ∧ SeqAt.shaped d = true ∧ SeqAt.shaped e = true ∧ PyData.eqv d e = r := by
  unfold eqP at e
  split at e
  · cases h1.int_inv; cases h2.int_inv; cases e
    exact .inl ⟨rfl, by simp⟩
  · cases h1.str_inv; cases h2.str_inv; cases e
    exact .inl ⟨rfl, by simp [sOf_inj]⟩
  · cases h1.bl_inv; cases h2.bl_inv; cases e
    exact .inl ⟨rfl, by simp⟩
  · cases h1.non_inv; cases h2.non_inv; cases e
    exact .inl ⟨rfl, by simp⟩
  · split at e
    · rename_i hl
      cases e
      rw [Bool.and_eq_true] at hl
      exact .inr ⟨_, _, h1.dp1 ex hl.1, h2.dp1 ex hl.2, lay_shaped hl.1, lay_shaped hl.2, eqN_eqv 60 _ _ hl.1 hl.2⟩
    · cases e
theorem flat_of {v : V} {d : D} (s : Sc v d) : flatV v = true := by cases s <;> rfl
theorem eqF_of {v u : V} {a b : D} (s : Sc v a) (t : Sc u b) : eqV v u = eqF a b := by
  cases s <;> cases t <;> simp [eqV, eqF]
  rw [Bool.eq_iff_iff]; simp [sOf_inj]
theorem any_of {u : V} {b : D} (t : Sc u b) : ∀ {vs : List V} {ds : List D}, Paired Sc vs ds → (inV u vs = ds.any fun y => eqF y b) ∧ vs.all flatV = true
  | _, _, .nil => ⟨rfl, rfl⟩
  | _, _, .cons s r => by
    obtain ⟨h1, h2⟩ := any_of t r
    unfold inV at h1 ⊢
    simp only [List.any_cons, List.all_cons, h1, h2, eqF_of s t, flat_of s]
    simp
theorem in_sound {r : Bool} (ex : Wap.Ex F H) (h1 : Owns K cl F H [v] [a] S) (h2 : Owns K cl F H [u] [b] S') (e : inP a b = some r) :
    (∃ (c : Nat) (z : Str), v = .str ⟨#[c]⟩ ∧ u = .str z ∧ decide (c ∈ z.cps.toList) = r) ∨ ∃ p xs, u = .ref p ∧ (SqL K H p xs ∨ SqT K H p xs) ∧ flatV v = true ∧ xs.all flatV = true ∧ inV v xs = r := by
  unfold inP at e
  split at e
  · rename_i c z
    cases h1.str_inv; cases h2.str_inv; cases e
    exact .inl ⟨c, sOf z, rfl, rfl, by rw [cps_sOf]⟩
  · split at e
    · rename_i hs
      cases e
      rw [Bool.and_eq_true] at hs
      obtain ⟨p, us, rfl, hH, _, g⟩ := h2.lst_inv ex
      have t := h1.sc_inv hs.1
      obtain ⟨q1, q2⟩ := any_of t ((g (isSc_fz hs.2)).scs hs.2)
      exact .inr ⟨p, us, rfl, .inl (.inl (.inl hH)), flat_of t, q2, q1⟩
    · cases e
  · split at e
    · rename_i hs
      cases e
      rw [Bool.and_eq_true] at hs
      obtain ⟨p, us, rfl, hH, _, g⟩ := h2.tup_inv ex
      have t := h1.sc_inv hs.1
      obtain ⟨q1, q2⟩ := any_of t ((g (isSc_fz hs.2)).scs hs.2)
      exact .inr ⟨p, us, rfl, .inr hH, flat_of t, q2, q1⟩
    · cases e
  · cases e
theorem mapM_ints : ∀ {xs : List D} {ns : List (Int)}, intsOf xs = some ns → xs = ns.map .int
  | [], ns, h => by simp [intsOf] at h; subst h; rfl
  | x :: xs, ns, h => by
    cases x <;> simp only [intsOf] at h <;> try (exact absurd h (by simp; done))
    cases hm : intsOf xs with
    | none => rw [hm] at h; cases h
    | some ms =>
      rw [hm] at h
      cases h
      simp [mapM_ints hm]
theorem mapM_bls : ∀ {xs : List D} {ns : List (Bool)}, blsOf xs = some ns → xs = ns.map .bl
  | [], ns, h => by simp [blsOf] at h; subst h; rfl
  | x :: xs, ns, h => by
    cases x <;> simp only [blsOf] at h <;> try (exact absurd h (by simp; done))
    cases hm : blsOf xs with
    | none => rw [hm] at h; cases h
    | some ms =>
      rw [hm] at h
      cases h
      simp [mapM_bls hm]
theorem mapM_strs : ∀ {xs : List D} {ns : List (List Nat)}, strsOf xs = some ns → xs = ns.map .str
  | [], ns, h => by simp [strsOf] at h; subst h; rfl
  | x :: xs, ns, h => by
    cases x <;> simp only [strsOf] at h <;> try (exact absurd h (by simp; done))
    cases hm : strsOf xs with
    | none => rw [hm] at h; cases h
    | some ms =>
      rw [hm] at h
      cases h
      simp [mapM_strs hm]
theorem scs_ints {vs : List V} {ns : List Int} (h : Paired Sc vs (ns.map .int)) : vs = ns.map .int := by
  induction ns generalizing vs with
  | nil => cases h; rfl
  | cons n ns ih => cases h with | cons s r => cases s; simp [ih r]
theorem scs_bls {vs : List V} {ns : List Bool} (h : Paired Sc vs (ns.map .bl)) : vs = ns.map .bl := by
  induction ns generalizing vs with
  | nil => cases h; rfl
  | cons n ns ih => cases h with | cons s r => cases s; simp [ih r]
theorem scs_strs {vs : List V} {ns : List (List Nat)} (h : Paired Sc vs (ns.map .str)) : vs = ns.map fun s => .str (sOf s) := by
  induction ns generalizing vs with
  | nil => cases h; rfl
  | cons n ns ih => cases h with | cons s r => cases s; simp [ih r]
theorem ints_sc (ns : List Int) : (ns.map D.int).all isSc = true := by simp [isSc]
theorem bls_sc (ns : List Bool) : (ns.map D.bl).all isSc = true := by simp [isSc]
theorem strs_sc (ns : List (List Nat)) : (ns.map D.str).all isSc = true := by simp [isSc]
theorem isi_sound {t : Ty} {r : Bool} (ex : Wap.Ex F H) (h : Owns K cl F H [v] [a] S) (e : isiP t a = some r) : ∃ ty : String, TyX K H v (.type ty) ∧ kitB ty (tyN t) = some r := by
  have sc : ∀ {x : D}, isSc x = true → a = x → ∃ ty : String, TyX K H v (.type ty) ∧ ((x = .non ∧ ty = "NoneType") ∨ (∃ b, x = .bl b ∧ ty = "bool") ∨ (∃ i, x = .int i ∧ ty = "int") ∨ ∃ s, x = .str s ∧ ty = "str") := by
    intro x hx ea
    subst ea
    have s := h.sc_inv hx
    cases s with
    | non => exact ⟨_, .base .non, .inl ⟨rfl, rfl⟩⟩
    | bl b => exact ⟨_, .base (.bl b), .inr (.inl ⟨b, rfl, rfl⟩)⟩
    | int i => exact ⟨_, .base (.int i), .inr (.inr (.inl ⟨i, rfl, rfl⟩))⟩
    | str s => exact ⟨_, .base (.str _), .inr (.inr (.inr ⟨s, rfl, rfl⟩))⟩
  cases a with
  | hole => cases t <;> simp [isiP] at e
  | non =>
    have s := h.sc_inv rfl; cases s
    refine ⟨_, .base .non, ?_⟩
    cases t <;> simp [isiP] at e <;> subst e <;> decide +kernel
  | bl b =>
    have s := h.sc_inv rfl; cases s
    refine ⟨_, .base (.bl _), ?_⟩
    cases t <;> simp [isiP] at e <;> subst e <;> decide +kernel
  | int i =>
    have s := h.sc_inv rfl; cases s
    refine ⟨_, .base (.int _), ?_⟩
    cases t <;> simp [isiP] at e <;> subst e <;> decide +kernel
  | str x =>
    have s := h.sc_inv rfl; cases s
    refine ⟨_, .base (.str _), ?_⟩
    cases t <;> simp [isiP] at e <;> subst e <;> decide +kernel
  | nd k o xs =>
    obtain ⟨p, us, rfl, f, _⟩ := h.node_inv ex
    cases k with
    | lst =>
      refine ⟨_, .base (.lst f), ?_⟩
      cases t <;> simp [isiP] at e <;> subst e <;> decide +kernel
    | scr => cases t <;> simp [isiP] at e
    | obj c fs => cases t <;> simp [isiP] at e
    | tup =>
      have ty : TyX K H (.ref p) (.type "tuple") := by
        rcases f with (f | ⟨ob, f⟩) | ⟨ob, its, n, f, c, _⟩
        · exact .base (.tup f)
        · exact .fTuple f
        · exact .kTuple f c
      refine ⟨_, ty, ?_⟩
      cases t <;> simp [isiP] at e <;> subst e <;> decide +kernel
    | dK ks =>
      obtain ⟨ho, f, rfl, _⟩ := f
      refine ⟨_, .base (.dK f), ?_⟩
      cases t <;> simp [isiP] at e <;> subst e <;> decide +kernel
    | dT ks =>
      obtain ⟨ho, f, rfl, _⟩ := f
      refine ⟨_, .base (.dT f), ?_⟩
      cases t <;> simp [isiP] at e <;> subst e <;> decide +kernel
/-- THE OPERATIONS -/
theorem prim_sound {p : Pr} (ex : Wap.Ex F H) (pk : Pks K cl F H vs ds) (e : prim p ds = some d) (k : ∀ v H', PRes K cl F H v d H' → Q v H') : rP K p vs H Q := by
  unfold prim at e
  split at e
  · -- int + int
    obtain ⟨v, u, _, _, rfl, h1, h2⟩ := pk.two
    cases h1.int_inv; cases h2.int_inv; cases e
    exact .inl (.inl (.inl ⟨_, _, rfl, rfl, k _ _ (.sc (.int _))⟩))
  · obtain ⟨v, u, _, _, rfl, h1, h2⟩ := pk.two
    cases h1.str_inv; cases h2.str_inv
    split at e
    · rename_i hz
      cases e
      refine .inl (.inl (.inr ⟨_, _, rfl, rfl, by rw [length_sOf, length_sOf, ← sizeLim]; exact hz, ?_⟩))
      rw [sOf_app]
      exact k _ _ (.sc (.str _))
    · cases e
  · obtain ⟨v, u, _, _, rfl, h1, h2⟩ := pk.two
    split at e
    · rename_i hz
      cases e
      simp only [Bool.and_eq_true, decide_eq_true_eq] at hz
      obtain ⟨⟨z1, z2⟩, z3⟩ := hz
      obtain ⟨p, us, rfl, hH, l1, g1⟩ := h1.lst_inv ex
      obtain ⟨q, ws, rfl, hH2, l2, g2⟩ := h2.lst_inv ex
      refine .inl (.inr ⟨p, q, us, ws, rfl, rfl, hH, hH2, by rw [l1, l2, ← sizeLim]; exact z3, fun x hx => pnew (k := .lst) hx rfl ((g1 z1).append (g2 z2)) (by simp [z1, z2]) k⟩)
    · cases e
  · obtain ⟨v, u, _, _, rfl, h1, h2⟩ := pk.two
    split at e
    · rename_i hz
      cases e
      simp only [Bool.and_eq_true, decide_eq_true_eq] at hz
      obtain ⟨⟨z1, z2⟩, z3⟩ := hz
      obtain ⟨p, us, rfl, hH, l1, g1⟩ := h1.tup_inv ex
      obtain ⟨q, ws, rfl, hH2, l2, g2⟩ := h2.tup_inv ex
      refine .inr ⟨p, q, us, ws, rfl, rfl, hH, hH2, by rw [l1, l2, ← sizeLim]; exact z3, fun hn => ?_, fun _ hn => ?_, fun _ _ x hx => pnew (k := .tup) hx rfl ((g1 z1).append (g2 z2)) (by simp [z1, z2]) k⟩
      · subst hn
        have l1 := List.eq_nil_of_length_eq_zero l1.symm
        subst l1
        exact k _ _ (.rd (h2.to_reps (by simp [fz])).1 rfl)
      · subst hn
        have l2 := List.eq_nil_of_length_eq_zero l2.symm
        subst l2
        rw [List.append_nil] at k
        exact k _ _ (.rd (h1.to_reps (by simp [fz])).1 rfl)
    · cases e
  · obtain ⟨v, u, _, _, rfl, h1, h2⟩ := pk.two
    cases h1.int_inv; cases h2.int_inv; cases e
    exact ⟨_, _, rfl, rfl, k _ _ (.sc (.int _))⟩
  · obtain ⟨v, u, _, _, rfl, h1, h2⟩ := pk.two
    cases h1.int_inv; cases h2.int_inv
    split at e
    · rename_i hz
      cases e
      exact .inl (.inl ⟨_, _, rfl, rfl, hz, k _ _ (.sc (.int _))⟩)
    · cases e
  · obtain ⟨v, u, _, _, rfl, h1, h2⟩ := pk.two
    cases h1.str_inv; cases h2.int_inv
    split at e
    · rename_i hz
      cases e
      exact .inl (.inr ⟨_, _, rfl, rfl, hz.1, hz.2.1, hz.2.2, k _ _ (.sc (.str _))⟩)
    · cases e
  · obtain ⟨v, u, _, _, rfl, h1, h2⟩ := pk.two
    cases h2.int_inv
    split at e
    · rename_i hz
      cases e
      obtain ⟨p, us, rfl, hH, l1, g1⟩ := h1.lst_inv ex
      refine .inr ⟨p, _, us, rfl, rfl, hH, hz.2.1, hz.2.2.1, by rw [l1, ← sizeLim]; exact hz.2.2.2, fun x hx => pnew (k := .lst) hx rfl ((g1 hz.1).replicate _) ?_ k⟩
      have := hz.1
      rw [List.all_eq_true] at this ⊢
      intro d hd
      rw [List.mem_flatten] at hd
      obtain ⟨l, hl, hd⟩ := hd
      rw [(List.mem_replicate.mp hl).2] at hd
      exact this d hd
    · cases e
  · obtain ⟨v, u, _, _, rfl, h1, h2⟩ := pk.two
    cases h1.int_inv; cases h2.int_inv
    split at e
    · rename_i hz
      cases e
      exact ⟨_, _, rfl, rfl, hz, k _ _ (.sc (.int _))⟩
    · cases e
  · obtain ⟨v, u, _, _, rfl, h1, h2⟩ := pk.two
    cases h1.int_inv; cases h2.int_inv
    split at e
    · rename_i hz
      cases e
      exact ⟨_, _, rfl, rfl, hz, k _ _ (.sc (.int _))⟩
    · cases e
  · obtain ⟨v, u, _, _, rfl, h1, h2⟩ := pk.two
    cases h1.int_inv; cases h2.int_inv
    split at e
    · rename_i hz
      cases e
      exact ⟨_, _, rfl, rfl, hz, k _ _ (.sc (.int _))⟩
    · cases e
  · obtain ⟨v, _, rfl, h1⟩ := pk.one
    cases h1.int_inv; cases e
    exact ⟨_, rfl, k _ _ (.sc (.int _))⟩
  · obtain ⟨v, u, _, _, rfl, h1, h2⟩ := pk.two
    rw [Option.map_eq_some_iff] at e
    obtain ⟨r, e, rfl⟩ := e
    rcases eq_sound ex h1 h2 e with ⟨q1, q2⟩ | ⟨d, d', q1, q2, q3, q4, q5⟩
    · exact .inl ⟨q1, by rw [q2]; exact k _ _ (.sc (.bl _))⟩
    · exact .inr ⟨d, d', q1, q2, q3, q4, by rw [q5]; exact k _ _ (.sc (.bl _))⟩
  · obtain ⟨v, u, _, _, rfl, h1, h2⟩ := pk.two
    rw [Option.map_eq_some_iff] at e
    obtain ⟨r, e, rfl⟩ := e
    rcases eq_sound ex h1 h2 e with ⟨q1, q2⟩ | ⟨d, d', q1, q2, q3, q4, q5⟩
    · exact .inl ⟨q1, by rw [q2]; exact k _ _ (.sc (.bl _))⟩
    · exact .inr ⟨d, d', q1, q2, q3, q4, by rw [q5]; exact k _ _ (.sc (.bl _))⟩
  iterate 4
    · obtain ⟨v, u, _, _, rfl, h1, h2⟩ := pk.two
      cases h1.int_inv; cases h2.int_inv; cases e
      exact ⟨_, _, rfl, rfl, k _ _ (.sc (.bl _))⟩
  · cases e
  · obtain ⟨v, _, rfl, h1⟩ := pk.one
    cases h1.non_inv; cases e
    exact k _ _ (.sc (.bl _))
  · rename_i hh hn
    obtain ⟨v, _, rfl, h1⟩ := pk.one
    cases e
    have : decide (v = .non) = false := by
      rw [decide_eq_false_iff_not]
      rintro rfl
      cases h1 with
      | hole _ => exact hh rfl
      | sc s _ => cases s; exact hn rfl
      | fro f _ => cases f with | sc s _ => cases s
    show Q (.bl (decide (v = .non))) H
    rw [this]
    exact k _ _ (.sc (.bl _))
  · cases e
  · obtain ⟨v, _, rfl, h1⟩ := pk.one
    cases h1.non_inv; cases e
    exact k _ _ (.sc (.bl _))
  · rename_i hh hn
    obtain ⟨v, _, rfl, h1⟩ := pk.one
    cases e
    have : decide (v = .non) = false := by
      rw [decide_eq_false_iff_not]
      rintro rfl
      cases h1 with
      | hole _ => exact hh rfl
      | sc s _ => cases s; exact hn rfl
      | fro f _ => cases f with | sc s _ => cases s
    show Q (.bl (!decide (v = .non))) H
    rw [this]
    exact k _ _ (.sc (.bl _))
  · obtain ⟨v, u, _, _, rfl, h1, h2⟩ := pk.two
    rw [Option.map_eq_some_iff] at e
    obtain ⟨r, e, rfl⟩ := e
    rcases in_sound ex h1 h2 e with ⟨c, z, rfl, rfl, q⟩ | ⟨p, xs, rfl, q1, q2, q3, q4⟩
    · exact .inl ⟨c, z, rfl, rfl, by rw [q]; exact k _ _ (.sc (.bl _))⟩
    · refine .inr ⟨p, xs, rfl, q1, q2, q3, ?_⟩
      show Q (.bl (inV v xs)) H
      rw [q4]; exact k _ _ (.sc (.bl _))
  · obtain ⟨v, u, _, _, rfl, h1, h2⟩ := pk.two
    rw [Option.map_eq_some_iff] at e
    obtain ⟨r, e, rfl⟩ := e
    rcases in_sound ex h1 h2 e with ⟨c, z, rfl, rfl, q⟩ | ⟨p, xs, rfl, q1, q2, q3, q4⟩
    · exact .inl ⟨c, z, rfl, rfl, by rw [q]; exact k _ _ (.sc (.bl _))⟩
    · refine .inr ⟨p, xs, rfl, q1, q2, q3, ?_⟩
      show Q (.bl (!inV v xs)) H
      rw [q4]; exact k _ _ (.sc (.bl _))
  · obtain ⟨v, u, _, _, rfl, h1, h2⟩ := pk.two
    cases h2.int_inv
    exact idx_sound ex h1 e k
  · obtain ⟨v, u, _, _, rfl, h1, h2⟩ := pk.two
    cases h2.int_inv
    exact ⟨_, rfl, cut_sound ex h1 e k⟩
  · obtain ⟨v, u, _, _, rfl, h1, h2⟩ := pk.two
    cases h2.int_inv
    exact ⟨_, rfl, cut_sound ex h1 e k⟩
  · obtain ⟨v, _, rfl, h1⟩ := pk.one
    split at e
    · rename_i hz
      cases e
      obtain ⟨p, us, rfl, hH, l1, g1⟩ := h1.lst_inv ex
      exact ⟨p, us, rfl, .inl (.inl hH), fun x hx => pnew (k := .lst) hx rfl (g1 hz).reverse (by simpa using hz) k⟩
    · cases e
  · obtain ⟨v, _, rfl, h1⟩ := pk.one
    cases h1.str_inv
    split at e
    · rename_i hz
      cases e
      refine .inr ⟨_, rfl, by rw [length_sOf, ← sizeLim]; exact hz, ?_⟩
      rw [length_sOf]
      exact k _ _ (.sc (.int _))
    · cases e
  · obtain ⟨v, _, rfl, h1⟩ := pk.one
    cases e
    obtain ⟨p, us, rfl, hH, l1, g1⟩ := h1.lst_inv ex
    exact .inl ⟨p, us, rfl, .inl (.inl (.inl hH)), by rw [l1]; exact k _ _ (.sc (.int _))⟩
  · obtain ⟨v, _, rfl, h1⟩ := pk.one
    cases e
    obtain ⟨p, us, rfl, hH, l1, g1⟩ := h1.scr_inv ex
    exact .inl ⟨p, us, rfl, .inl hH, by rw [l1]; exact k _ _ (.sc (.int _))⟩
  · obtain ⟨v, _, rfl, h1⟩ := pk.one
    cases e
    obtain ⟨p, us, rfl, hH, l1, g1⟩ := h1.tup_inv ex
    exact .inl ⟨p, us, rfl, .inr hH, by rw [l1]; exact k _ _ (.sc (.int _))⟩
  · obtain ⟨v, _, rfl, h1⟩ := pk.one
    cases h1.int_inv; cases e
    exact ⟨_, rfl, k _ _ (.sc (.int _))⟩
  · obtain ⟨v, _, rfl, h1⟩ := pk.one
    cases h1.int_inv; cases e
    exact .inl ⟨_, rfl, k _ _ (.sc (.int _))⟩
  · obtain ⟨v, _, rfl, h1⟩ := pk.one
    cases h1.bl_inv; cases e
    exact .inr ⟨_, rfl, k _ _ (.sc (.int _))⟩
  · obtain ⟨v, _, rfl, h1⟩ := pk.one
    split at e
    · rename_i hz
      cases e
      obtain ⟨p, us, rfl, hH, l1, g1⟩ := h1.lst_inv ex
      exact ⟨p, us, rfl, .inl (.inl (.inl hH)), fun x hx => pnew (k := .lst) hx rfl (g1 hz) hz k⟩
    · cases e
  · obtain ⟨v, _, rfl, h1⟩ := pk.one
    split at e
    · rename_i hz
      cases e
      obtain ⟨p, us, rfl, hH, l1, g1⟩ := h1.tup_inv ex
      exact ⟨p, us, rfl, .inr hH, fun x hx => pnew (k := .lst) hx rfl (g1 hz) hz k⟩
    · cases e
  · obtain ⟨v, _, rfl, h1⟩ := pk.one
    split at e
    · rename_i hz
      cases e
      obtain ⟨p, us, rfl, hH, l1, g1⟩ := h1.lst_inv ex
      exact ⟨p, us, rfl, .inl ⟨.inl (.inl hH), fun x hx => pnew (k := .tup) hx rfl (g1 hz) hz k⟩⟩
    · cases e
  · obtain ⟨v, _, rfl, h1⟩ := pk.one
    split at e
    · rename_i hz
      cases e
      obtain ⟨p, us, rfl, hH, l1, g1⟩ := h1.tup_inv ex
      exact ⟨p, us, rfl, .inr ⟨hH, k _ _ (.rd (h1.to_reps (by simp [fz])).1 rfl)⟩⟩
    · cases e
  · obtain ⟨v, _, rfl, h1⟩ := pk.one
    rw [Option.map_eq_some_iff] at e
    obtain ⟨ns, e, rfl⟩ := e
    have := mapM_ints e; subst this
    obtain ⟨p, us, rfl, hH, l1, g1⟩ := h1.lst_inv ex
    have := scs_ints ((g1 (isSc_fz (ints_sc ns))).scs (ints_sc ns)); subst this
    exact ⟨p, ns, rfl, .inl (.inl hH), k _ _ (.sc (.int _))⟩
  · obtain ⟨v, _, rfl, h1⟩ := pk.one
    rw [Option.map_eq_some_iff] at e
    obtain ⟨ns, e, rfl⟩ := e
    have := mapM_bls e; subst this
    obtain ⟨p, us, rfl, hH, l1, g1⟩ := h1.lst_inv ex
    have := scs_bls ((g1 (isSc_fz (bls_sc ns))).scs (bls_sc ns)); subst this
    exact ⟨p, ns, rfl, .inl (.inl hH), k _ _ (.sc (.bl _))⟩
  · obtain ⟨v, _, rfl, h1⟩ := pk.one
    rw [Option.map_eq_some_iff] at e
    obtain ⟨ns, e, rfl⟩ := e
    have := mapM_bls e; subst this
    obtain ⟨p, us, rfl, hH, l1, g1⟩ := h1.lst_inv ex
    have := scs_bls ((g1 (isSc_fz (bls_sc ns))).scs (bls_sc ns)); subst this
    exact ⟨p, ns, rfl, .inl (.inl hH), k _ _ (.sc (.bl _))⟩
  · obtain ⟨v, u, _, _, rfl, h1, h2⟩ := pk.two
    cases h1.int_inv; cases h2.int_inv; cases e
    exact ⟨_, _, rfl, k _ _ (.sc (.int _))⟩
  · obtain ⟨v, u, _, _, rfl, h1, h2⟩ := pk.two
    cases h1.int_inv; cases h2.int_inv; cases e
    exact ⟨_, _, rfl, k _ _ (.sc (.int _))⟩
  · obtain ⟨v, _, rfl, h1⟩ := pk.one
    rw [Option.map_eq_some_iff] at e
    obtain ⟨r, e, rfl⟩ := e
    obtain ⟨ty, q1, q2⟩ := isi_sound ex h1 e
    exact ⟨v, .ty _, _, _, r, rfl, .ty _, q1, kit_ty q2, k _ _ (.sc (.bl _))⟩
  · cases e
end
end Wap
set_option Elab.async false
set_option linter.all false
set_option maxRecDepth 100000
set_option maxHeartbeats 1000000
/-! W5: the reading of the small syntax (in the hand layer's words), and what its answers mean. -/
namespace Wap
open PySem L2

/-- the words of the refusals, by their classes' numbers; where the classes stand -/
structure Wd where
  cl : Nat → Addr
  wd : Nat → List Nat
def sWord : Str := "word"
def xdOf (W : Wd) (w : Nat) : HO := .xd [(sWord, .str (sOf (W.wd w)))]
def rMu : Mu → V → List V → Hp → VK → Prop
  | .append => rAppend | .pop => rPop | .popAt => rPopAt | .reverse => rReverse | .clear => rClear
  | .insert => fun x vs H Q => ∃ (l : Addr) (xs : List V) (i : Int) (y : V), x = .ref l ∧ vs = [.int i, y] ∧ H l = some (.lst xs) ∧ xs.length < sizeLine ∧ 0 ≤ i ∧ i < 2 ^ 63 ∧ Q .non (upd H l (.lst (xs.take i.toNat ++ [y] ++ xs.drop i.toNat)))
def gNames : List Nat → TGs
  | [] => gNil
  | j :: js => gCons (gName j) (gNames js)
def rdG (K : PySem.W.Frag) : Tg → TG
  | .one j => gName j
  | .tup js => fun v σ H Q => gTup K js.length (gNames js) v σ H Q ∨ gUnl K js.length (gNames js) v σ H Q
def E0 : XK := fun _ _ _ => False
def iSeq (K : PySem.W.Frag) (te : TE) : TI := fun σ H R => (iList K te σ H R ∨ iTup K te σ H R) ∨ iStr te σ H R
def rdI (K : PySem.W.Frag) (k : ItK) (ta : TA) (te : TE) : TI := match k with
  | .rng1 => iRng1 ta | .rng2 => iRng2 ta | .seq => iSeq K te
def both (t : TE) : TE × TT := (t, tB t)
mutual
/-- an expression's reading, and as a test -/
def rdX (K : PySem.W.Frag) (P : Nat → Sp) : Xp → XK → TE × TT
  | .c d, _ => both (tC d.v)
  | .g _ d, _ => both (tC d.v)
  | .v i, _ => both (tVar i)
  | .mv i, _ => both (tVar i)
  | .rf i, _ => both (tVar i)
  | .pr p es, E => both fun σ H Q => rdA K P es E σ H fun vs H1 => rP K p vs H1 Q
  | .and a b, E => (tAndV (rdX K P a E).1 (rdX K P b E).1, tAnd (rdX K P a E).2 (rdX K P b E).2)
  | .or a b, E => (tOrV (rdX K P a E).1 (rdX K P b E).1, tOr (rdX K P a E).2 (rdX K P b E).2)
  | .not a, E => (tNotV (rdX K P a E).1, tNot (rdX K P a E).2)
  | .fz a, E => both (rdX K P a E).1
  | .chn p q a b c, E => both fun σ H Q => (rdX K P a E).1 σ H fun x H1 => (rdX K P b E).1 σ H1 fun y H2 => rP K p [x, y] H2 fun z H3 => ∃ k, z = .bl k ∧ (if k = true then (rdX K P c E).1 σ H3 fun w H4 => rP K q [y, w] H4 Q else Q (.bl false) H3)
  | .slc a b c, E => both (tSl (rSl K) (rdX K P a E).1 (tPart (rdX K P b E).1) (tPart (rdX K P c E).1))
  | .ite c a b, E => both (tIf (rdX K P c E).2 (rdX K P a E).1 (rdX K P b E).1)
  | .call f es, E => both (tCall (P f) [] E (rdA K P es E))
  | .mut i m es, E => both (tBM K "list" (rMu m) (tVar i) (rdA K P es E))
  | .lst es, E => both (tLst (rdA K P es E))
  | .tup es, E => both (tTup (rdA K P es E))
  | .comp tg k its cond elt vs, E => both (tLc (rdI K k (rdA K P its E) (rdH K P its E)) (rdG K tg) (rdC K P cond E0) (rdX K P elt E0).1 vs)
def rdA (K : PySem.W.Frag) (P : Nat → Sp) : List Xp → XK → TA
  | [], _ => tNil
  | e :: es, E => tCons (rdX K P e E).1 (rdA K P es E)
def rdH (K : PySem.W.Frag) (P : Nat → Sp) : List Xp → XK → TE
  | [e], E => (rdX K P e E).1
  | _, _ => fun _ _ _ => False
def rdC (K : PySem.W.Frag) (P : Nat → Sp) : List Xp → XK → TT
  | [], _ => tYes
  | [e], E => (rdX K P e E).2
  | _ :: _ :: _, _ => fun _ _ _ => False
end
def ipA : TIp := fun x y H Q => (ipI (· + ·) x y H Q ∨ rAddS x y H Q) ∨ rExt2 x y H Q
mutual
def rdS (K : PySem.W.Frag) (W : Wd) (P : Nat → Sp) (E : XK) : Sm → TS
  | .asg i e => tAsg (rdX K P e E).1 (gName i)
  | .unp js e => tAsg (rdX K P e E).1 (rdG K (.tup js))
  | .exs e => tDrop (rdX K P e E).1
  | .aug i e => tAug i (rdX K P e E).1 ipA
  | .ife c a b => tIfS (rdX K P c E).2 (rdSs K W P E a) (rdSs K W P E b)
  | .fors tg k its body => tFor (rdI K k (rdA K P its E) (rdH K P its E)) (rdG K tg) (rdSs K W P E body)
  | .whl c body => tWhile (rdX K P c E).2 (rdSs K W P E body)
  | .ret e => tRet (rdX K P e E).1
  | .retN => tRetN
  | .rse w => fun _ _ H => ∀ d, H d = none → E (.ref (W.cl w)) (some d) (upd H d (xdOf W w))
  | .brk => tBreak
  | .cnt => tCont
  | .pas => tNext
  | .kil _ => tNext
def rdSs (K : PySem.W.Frag) (W : Wd) (P : Nat → Sp) (E : XK) : List Sm → TS
  | [] => tNext
  | .kil _ :: ss => rdSs K W P E ss
  | s :: ss => tSeq (rdS K W P E s) (rdSs K W P E ss)
end

/-! ### what answers mean -/
section
variable (K : PySem.W.Frag) (W : Wd) (T : List (Addr × Str))
abbrev RelW (F H : Hp) (σ : L2.St) (env : List D) (S : List Addr) : Prop := Rel K W.cl T F H σ env S
def PostX (F H : Hp) (σ : L2.St) (S : List Addr) (E : XK) (w : Nat) (env : List D) : Prop :=
  ∀ dd H' F' S', Rel K W.cl T F' H' σ env S' → Stp F H S F' H' S' → H' dd = some (xdOf W w) → E (.ref (W.cl w)) (some dd) H'
def PostE (F H : Hp) (σ : L2.St) (S : List Addr) (Q : VK) (E : XK) : Out D → Prop
  | .ok d env => ∀ v H' F' S', Rel K W.cl T F' H' (some v :: σ) (d :: env) S' → Stp F H S F' H' S' → Q v H'
  | .exc w env => PostX K W T F H σ S E w env
  | .bad => False
def PostT (F H : Hp) (σ : L2.St) (S : List Addr) (Q : Bool → Hp → Prop) (E : XK) : Out D → Prop
  | .ok (.bl b) env => ∀ H' F' S', Rel K W.cl T F' H' σ env S' → Stp F H S F' H' S' → Q b H'
  | .ok _ _ => False
  | .exc w env => PostX K W T F H σ S E w env
  | .bad => False
def PostA (F H : Hp) (σ : L2.St) (S : List Addr) (Q : List V → Hp → Prop) (E : XK) : Out (List D) → Prop
  | .ok ds env => ∀ vs H' F' S', Rel K W.cl T F' H' σ env S' → Pks K W.cl F' H' vs ds → Stp F H S F' H' S' → Q vs H'
  | .exc w env => PostX K W T F H σ S E w env
  | .bad => False
/-- the values of what is lent -/
def RefV (σ : L2.St) : List Xp → List V → Prop
  | .rf i :: es, v :: vs => σ[i]? = some (some v) ∧ RefV σ es vs
  | _ :: es, _ :: vs => RefV σ es vs
  | _, _ => True
def PostR (es : List Xp) (F H : Hp) (σ : L2.St) (S : List Addr) (Q : List V → Hp → Prop) (E : XK) : Out (List D) → Prop
  | .ok ds env => ∀ vs H' F' S', vs.length = ds.length → RefV σ es vs → Rel K W.cl T F' H' (vs.map some ++ σ) (ds ++ env) S' → Stp F H S F' H' S' → Q vs H'
  | .exc w env => PostX K W T F H σ S E w env
  | .bad => False
/-- the defs keep what G tells of them -/
def GOk (G : Gam) (P : Nat → Sp) : Prop := ∀ (f : Nat) (ds : List D) (vs : List V) (F H : Hp) (S : List Addr) (Q : VK) (E : XK), vs.length = ds.length → Rel K W.cl T F H (vs.map some) ds S →
  (match G.run f ds with
  | .ok d outs => ∀ v σ' H' F' S', Rel K W.cl T F' H' (some v :: σ') (d :: outs) S' → Stp F H S F' H' S' → (∀ i ∈ G.fx f, σ'[i]? = (vs.map some)[i]?) → Q v H'
  | .exc w outs => ∀ dd σ' H' F' S', Rel K W.cl T F' H' σ' outs S' → Stp F H S F' H' S' → (∀ i ∈ G.fx f, σ'[i]? = (vs.map some)[i]?) → H' dd = some (xdOf W w) → E (.ref (W.cl w)) (some dd) H'
  | .bad => False) → P f vs H Q E
end

section
variable {K : PySem.W.Frag} {W : Wd} {T : List (Addr × Str)} {F F' F1 F2 H H' H1 H2 : Hp} {σ σ' : L2.St} {env env' : List D} {S S' S1 S2 S3 : List Addr} {v u : V} {d : D} {E : XK}
theorem Stp.frame {cl : Nat → Addr} {vs : List V} {ds : List D} (a : Stp F H S F' H' S') (ow : Owns K cl F H vs ds S1) : Stp F H (S1 ++ S) F' H' (S1 ++ S') :=
  ⟨a.exF, fun p o e n hs => a.keep p o e n (fun z => hs (by simp [z])), a.dom, fun p o e n => (a.newF p o e n).imp id (fun z => by simp [z]), fun p hp => (List.mem_append.mp hp).elim (fun z => .inl (by simp [z])) fun z => (a.newS p z).imp (fun z => by simp [z]) id⟩
theorem PostX.from {w : Nat} {env : List D} (st : Stp F H S F1 H1 S1) (hs : ∀ p ∈ S2, p ∈ S1) (h : PostX K W T F H σ S E w env) : PostX K W T F1 H1 σ S2 E w env := fun dd H' F' S' r s e => h dd H' F' S' r (st.trans (s.wide hs)) e
theorem PostE.from {Q : VK} {o : Out D} (st : Stp F H S F1 H1 S1) (hs : ∀ p ∈ S2, p ∈ S1) (h : PostE K W T F H σ S Q E o) : PostE K W T F1 H1 σ S2 Q E o := by
  cases o with
  | ok d env => exact fun v H' F' S' r s => h v H' F' S' r (st.trans (s.wide hs))
  | exc w env => exact PostX.from st hs h
  | bad => exact h
theorem PostT.from {Q : Bool → Hp → Prop} {o : Out D} (st : Stp F H S F1 H1 S1) (hs : ∀ p ∈ S2, p ∈ S1) (h : PostT K W T F H σ S Q E o) : PostT K W T F1 H1 σ S2 Q E o := by
  cases o with
  | ok d env => cases d <;> first | exact fun H' F' S' r s => h H' F' S' r (st.trans (s.wide hs)) | exact h
  | exc w env => exact PostX.from st hs h
  | bad => exact h
theorem PostA.from {Q : List V → Hp → Prop} {o : Out (List D)} (st : Stp F H S F1 H1 S1) (hs : ∀ p ∈ S2, p ∈ S1) (h : PostA K W T F H σ S Q E o) : PostA K W T F1 H1 σ S2 Q E o := by
  cases o with
  | ok d env => exact fun v H' F' S' r pk s => h v H' F' S' r pk (st.trans (s.wide hs))
  | exc w env => exact PostX.from st hs h
  | bad => exact h
theorem PostR.from {es : List Xp} {Q : List V → Hp → Prop} {o : Out (List D)} (st : Stp F H S F1 H1 S1) (hs : ∀ p ∈ S2, p ∈ S1) (h : PostR K W T es F H σ S Q E o) : PostR K W T es F1 H1 σ S2 Q E o := by
  cases o with
  | ok d env => exact fun v H' F' S' l rv r s => h v H' F' S' l rv r (st.trans (s.wide hs))
  | exc w env => exact PostX.from st hs h
  | bad => exact h
/-- an operation's result beside the state -/
theorem Rel.pres {cl : Nat → Addr} (r : Rel K cl T F H σ env S) (p : PRes K cl F H v d H') : ∃ F' S', Rel K cl T F' H' (some v :: σ) (d :: env) S' ∧ Stp F H S F' H' S' := by
  have put : ∀ {v : V} {d : D}, Reps K cl F [v] [d] → fz d = true → Rel K cl T F H (some v :: σ) (d :: env) S := fun {v d} rp hf => by
    refine ⟨(Owns.of_reps (H := H) rp (by simpa using hf)).cons r.own, fun j d' e' hd' => ?_, r.nd, r.dF, r.ex, r.nt, r.tab⟩
    cases j with
    | zero => exact ⟨_, rfl⟩
    | succ j =>
      obtain ⟨v', hv'⟩ := r.set j d' (by simpa using e') hd'
      exact ⟨v', by simpa using hv'⟩
  cases p with
  | sc s => exact ⟨F, S, put (.sc s .nil) (by cases s <;> rfl), Stp.refl⟩
  | rd rp hf => exact ⟨F, S, put rp hf, Stp.refl⟩
  | @new p o k us xs m hp ho rp hz =>
    have ow := Owns.of_reps (H := H) rp (by simpa using hz)
    have r1 : Rel K cl T F H (us.map some ++ σ) (xs ++ env) ([] ++ S) := Rel.frame ow (by simpa using r.nd) (by simp) Stp.refl r
    obtain ⟨r2, st2⟩ := r1.alloc rp.length hp ho
    cases m with
    | true => exact ⟨F, _, r2, st2⟩
    | false =>
      -- shared at once
      have hF : F p = none := by
        cases e : F p with
        | none => rfl
        | some u => rw [r.ex p u e] at hp; cases hp
      have hpS : p ∉ S := fun z => by
        obtain ⟨_, _, o', e, _⟩ := r.own.there p z
        rw [hp] at e; cases e
      have rp2 : Reps K cl (upd F p o) [.ref p] [.nd k false xs] := .nd (.of upd_same ho) (rp.mono (Wap.Ex.new hF)) .nil
      refine ⟨upd F p o, S, ⟨.fro rp2 (r.own.mono (Wap.Ex.new hF) fun q u _ e => Wap.Ex.new hp q u e), fun j d' e' hd' => ?_, r.nd, fun q hq => ?_, r.ex.both, fun q u e => ?_, r.tab.ext (Wap.Ex.new hp)⟩, ⟨Wap.Ex.new hF, fun q u e _ _ => Wap.Ex.new hp q u e, fun q e => ?_, fun q u e n => ?_, fun q hq => .inl hq⟩⟩
      · cases j with
        | zero => exact ⟨_, rfl⟩
        | succ j =>
          obtain ⟨v', hv'⟩ := r.set j d' (by simpa using e') hd'
          exact ⟨v', by simpa using hv'⟩
      · rw [upd_ne (show q ≠ p from fun z => hpS (by rw [← z]; exact hq))]
        exact r.dF q hq
      · by_cases z : q = p
        · subst z; rw [upd_same] at e; cases e; exact ho.notbl
        · rw [upd_ne z] at e; exact r.nt q u e
      · by_cases z : q = p
        · subst z; exact hp
        · rw [upd_ne z] at e; exact e
      · by_cases z : q = p
        · subst z; exact .inl hp
        · rw [upd_ne z, n] at e; cases e
/-- a slot that is looked at -/
theorem Rel.look {cl : Nat → Addr} {i : Nat} (r : Rel K cl T F H σ env S) (e : env[i]? = some d) (hd : isHole d = false) : ∃ v S1, σ[i]? = some (some v) ∧ Owns K cl F H [v] [d] S1 := by
  obtain ⟨v, _, Si, _, hv, _, _, h, _⟩ := r.slot e (by rintro rfl; simp [isHole] at hd)
  exact ⟨v, Si, hv, h⟩
end
end Wap
set_option Elab.async false
set_option linter.all false
set_option maxRecDepth 100000
set_option maxHeartbeats 1000000
/-! W6: expressions but for comprehensions. -/
namespace Wap
open PySem L2
section
variable {K : PySem.W.Frag} {W : Wd} {T : List (Addr × Str)} {F F' F1 F2 H H' H1 H2 : Hp} {σ σ' : L2.St} {env env' : List D} {S S' S1 S2 S3 : List Addr} {v u : V} {d : D} {E : XK} {cl : Nat → Addr}
/-- an owned node in a slot is changed; values from beside the state go into it, and some come out -/
theorem Rel.mut {i : Nat} {k : Kd} {xs : List D} {vs : List V} {ds : List D} (hl : vs.length = ds.length) (r : Rel K cl T F H (vs.map some ++ σ) (ds ++ env) S) (e : env[i]? = some (.nd k true xs)) :
    ∃ p o us Sc St, σ[i]? = some (some (.ref p)) ∧ H p = some o ∧ HOis cl k us o ∧ Owns K cl F H us xs Sc ∧ Owns K cl F H vs ds St ∧ (St ++ Sc).Nodup ∧
      ∀ (o' : HO) (k' : Kd) (us' : List V) (xs' : List D) (Sn : List Addr) (vr : List V) (dr : List D) (Sr : List Addr), HOis cl k' us' o' → Owns K cl F H us' xs' Sn → Owns K cl F H vr dr Sr → (Sr ++ Sn).Nodup → (∀ q ∈ Sr ++ Sn, q ∈ St ++ Sc) →
        ∃ S', Rel K cl T F (upd H p o') (vr.map some ++ σ) (dr ++ env.set i (.nd k' true xs')) S' ∧ Stp F H S F (upd H p o') S' := by
  obtain ⟨St, S2, rfl, ht, r2⟩ := r.dropN hl
  obtain ⟨v, T1, Ti, T2, hv, hT, o1, o2, o3⟩ := r2.slot e (by intro z; cases z)
  obtain ⟨p, o, us, Sc, rfl, hp, ho, hc, rfl⟩ := o2.own_inv
  have nd := r.nd
  rw [hT] at nd
  have hi : i < env.length := (List.getElem?_eq_some_iff.mp e).1
  have hl2 := r2.len
  refine ⟨p, o, us, Sc, St, hv, hp, ho, hc, ht, ?_, fun o' k' us' xs' Sn vr dr Sr ho' hn hr hnd hsub => ?_⟩
  · simp only [List.nodup_append, List.mem_append, List.nodup_cons, List.mem_cons] at nd ⊢
    grind
  · have pn : p ∉ Sr ∧ p ∉ Sn ∧ p ∉ T1 ∧ p ∉ T2 := by
      simp only [List.nodup_append, List.mem_append, List.nodup_cons, List.mem_cons] at nd hsub
      grind
    have mv : ∀ {vs : List V} {ds : List D} {S : List Addr}, Owns K cl F H vs ds S → p ∉ S → Owns K cl F (upd H p o') vs ds S := fun h hs => h.mono (Wap.Ex.refl F) fun q u hq eq => by
      rw [upd_ne (show q ≠ p from fun z => hs (z ▸ hq))]; exact eq
    have ntb : NoTbl o := ho.notbl
    have hF : F p = none := r2.dF p (by rw [hT]; simp)
    have exK : ∀ q u, H q = some u → q ≠ p → upd H p o' q = some u := fun q u eq hq => by rw [upd_ne hq]; exact eq
    have ev : (vals σ).set i (.ref p) = vals σ := by
      have hv' : i < σ.length := by omega
      have : σ[i] = some (.ref p) := by rw [List.getElem?_eq_getElem hv'] at hv; simpa using hv
      rw [← vals_set, ← this, List.set_getElem_self]
    have hlr := hr.length
    refine ⟨Sr ++ (T1 ++ ((p :: (Sn ++ [])) ++ T2)), ⟨?_, fun j d' e' hd' => ?_, ?_, fun q hq => ?_, fun q u eq => ?_, r.nt, fun q hq => ?_⟩, ⟨Wap.Ex.refl F, fun q u eq _ hq => exK q u eq (fun z => hq ?_), fun q eq => ?_, fun q u eq n => ?_, fun q hq => .inl ?_⟩⟩
    · rw [vals_append, vals_some]
      refine (mv hr pn.1).append ?_
      rw [← ev]
      exact Owns.join (by rw [vals_length]; omega) hi (mv o1 pn.2.2.1) (.own upd_same ho' (mv hn pn.2.1) .nil) (mv o3 pn.2.2.2)
    · by_cases hj : j < dr.length
      · exact ⟨vr[j]'(by omega), by rw [List.getElem?_append_left (by simp; omega), List.getElem?_map, List.getElem?_eq_getElem (by omega)]; rfl⟩
      · rw [List.getElem?_append_right (by omega)] at e'
        by_cases hij : i = j - dr.length
        · refine ⟨.ref p, ?_⟩
          rw [List.getElem?_append_right (by simp; omega)]
          simp only [List.length_map, hlr, ← hij]
          exact hv
        · rw [List.getElem?_set_ne hij] at e'
          obtain ⟨v', hv'⟩ := r2.set _ d' e' hd'
          exact ⟨v', by rw [List.getElem?_append_right (by simp; omega)]; simpa [hlr] using hv'⟩
    · simp only [List.nodup_append, List.mem_append, List.nodup_cons, List.mem_cons, List.append_nil] at nd hsub hnd ⊢
      grind
    · have : q ∈ St ++ S2 := by
        rw [hT]
        simp only [List.mem_append, List.mem_cons, List.append_nil] at hq hsub ⊢
        grind
      exact r.dF q this
    · exact exK q u (r.ex q u eq) fun z => by rw [z, hF] at eq; cases eq
    · -- the tables stand
      obtain ⟨ps, t1, t2, t3⟩ := r.tab q hq
      refine ⟨ps, exK _ _ t1 fun z => ?_, t2, fun pos cv hcv => ?_⟩
      · rw [z, hp] at t1; cases t1; exact ntb ps rfl
      · obtain ⟨c, c1, c2⟩ := t3 pos cv hcv
        refine ⟨c, c1, exK _ _ c2 fun z => ?_⟩
        rw [z, hp] at c2; cases c2
        exact ho.noext _ rfl
    · rw [z, hT]; simp
    · by_cases z : q = p
      · subst z; rw [upd_same] at eq; cases eq
      · rw [upd_ne z] at eq; exact eq
    · rw [eq] at n; cases n
    · rw [hT]
      simp only [List.mem_append, List.mem_cons, List.append_nil] at hq hsub ⊢
      grind
end
def SE (K : PySem.W.Frag) (W : Wd) (T : List (Addr × Str)) (G : Gam) (P : Nat → Sp) (e : Xp) : Prop := ∀ (E : XK) (fx : List Nat) (env : List D) (σ : L2.St) (H F : Hp) (S : List Addr) (Q : VK), Rel K W.cl T F H σ env S → PostE K W T F H σ S Q E (ev G e fx env) → (rdX K P e E).1 σ H Q
def ST (K : PySem.W.Frag) (W : Wd) (T : List (Addr × Str)) (G : Gam) (P : Nat → Sp) (e : Xp) : Prop := ∀ (E : XK) (fx : List Nat) (env : List D) (σ : L2.St) (H F : Hp) (S : List Addr) (Q : Bool → Hp → Prop), Rel K W.cl T F H σ env S → PostT K W T F H σ S Q E (ev G e fx env) → (rdX K P e E).2 σ H Q
def SA (K : PySem.W.Frag) (W : Wd) (T : List (Addr × Str)) (G : Gam) (P : Nat → Sp) (es : List Xp) : Prop := ∀ (E : XK) (fx : List Nat) (env : List D) (σ : L2.St) (H F : Hp) (S : List Addr) (Q : List V → Hp → Prop), Rel K W.cl T F H σ env S → PostA K W T F H σ S Q E (evA G es fx env) → rdA K P es E σ H Q
def SR (K : PySem.W.Frag) (W : Wd) (T : List (Addr × Str)) (G : Gam) (P : Nat → Sp) (es : List Xp) : Prop := ∀ (E : XK) (fx : List Nat) (env : List D) (σ : L2.St) (H F : Hp) (S : List Addr) (Q : List V → Hp → Prop), Rel K W.cl T F H σ env S → PostR K W T es F H σ S Q E (evR G es fx env) → rdA K P es E σ H Q
section
variable {K : PySem.W.Frag} {W : Wd} {T : List (Addr × Str)} {G : Gam} {P : Nat → Sp} {F F' F1 F2 H H' H1 H2 : Hp} {σ σ' : L2.St} {env env' : List D} {S S' S1 S2 S3 : List Addr} {v u : V} {d : D} {E : XK}
/-- a test that is no and, or, not -/
theorem st_of {e : Xp} (h : SE K W T G P e) (eq : (rdX K P e E).2 = tB (rdX K P e E).1) (fx : List Nat) (env : List D) (σ : L2.St) (H F : Hp) (S : List Addr) (Q : Bool → Hp → Prop) (r : Rel K W.cl T F H σ env S) (p : PostT K W T F H σ S Q E (ev G e fx env)) : (rdX K P e E).2 σ H Q := by
  rw [eq]
  refine h E fx env σ H F S _ r ?_
  cases ho : ev G e fx env with
  | ok d env' =>
    rw [ho] at p
    cases d with
    | bl b =>
      intro v H' F' S' r' st
      obtain ⟨S1, S2, rfl, o1, r2⟩ := r'.drop1
      cases o1.bl_inv
      exact ⟨b, rfl, p H' F' _ r2 (st.less fun q hq => by simp [hq])⟩
    | _ => exact p.elim
  | exc w env' => rw [ho] at p; exact p
  | bad => rw [ho] at p; exact p
/-- evaluate, then go on -/
theorem bindE {α : Type} {e : Xp} {fx : List Nat} {f : D → List D → Out α} {Post : Out α → Prop} {Q : VK} (h : SE K W T G P e) (r : Rel K W.cl T F H σ env S) (px : ∀ w env', ev G e fx env = .exc w env' → Post (.exc w env') → PostX K W T F H σ S E w env') (pb : ¬ Post .bad)
    (p : Post ((ev G e fx env).bind f)) (k : ∀ d env1 v H1 F1 S1, ev G e fx env = .ok d env1 → Post (f d env1) → Rel K W.cl T F1 H1 (some v :: σ) (d :: env1) S1 → Stp F H S F1 H1 S1 → Q v H1) : (rdX K P e E).1 σ H Q := by
  refine h E fx env σ H F S Q r ?_
  cases ho : ev G e fx env with
  | ok d env1 => rw [ho] at p; exact fun v H1 F1 S1 r1 st => k d env1 v H1 F1 S1 ho p r1 st
  | exc w env1 => rw [ho] at p; exact px w env1 ho p
  | bad => rw [ho] at p; exact (pb p).elim
theorem bindT' {α : Type} {e : Xp} {fx : List Nat} {f : D → List D → Out α} {Post : Out α → Prop} {Q : Bool → Hp → Prop} (h : ST K W T G P e) (r : Rel K W.cl T F H σ env S) (px : ∀ w env', Post (.exc w env') → PostX K W T F H σ S E w env') (pb : ¬ Post .bad)
    (hf : ∀ d env1, (∀ b, d ≠ .bl b) → f d env1 = .bad) (p : Post ((ev G e fx env).bind f)) (k : ∀ b env1 H1 F1 S1, Post (f (.bl b) env1) → Rel K W.cl T F1 H1 σ env1 S1 → Stp F H S F1 H1 S1 → Q b H1) : (rdX K P e E).2 σ H Q := by
  refine h E fx env σ H F S Q r ?_
  cases ho : ev G e fx env with
  | ok d env1 =>
    rw [ho] at p
    have p : Post (f d env1) := p
    cases d with
    | bl b => exact fun H1 F1 S1 r1 st => k b env1 H1 F1 S1 p r1 st
    | _ => rw [hf _ _ (by intro b z; cases z)] at p; exact (pb p).elim
  | exc w env1 => rw [ho] at p; exact px w env1 p
  | bad => rw [ho] at p; exact (pb p).elim
theorem bindA {α : Type} {es : List Xp} {fx : List Nat} {f : List D → List D → Out α} {Post : Out α → Prop} {Q : List V → Hp → Prop} (h : SA K W T G P es) (r : Rel K W.cl T F H σ env S) (px : ∀ w env', Post (.exc w env') → PostX K W T F H σ S E w env') (pb : ¬ Post .bad)
    (p : Post ((evA G es fx env).bind f)) (k : ∀ ds env1 vs H1 F1 S1, Post (f ds env1) → Rel K W.cl T F1 H1 σ env1 S1 → Pks K W.cl F1 H1 vs ds → Stp F H S F1 H1 S1 → Q vs H1) : rdA K P es E σ H Q := by
  refine h E fx env σ H F S Q r ?_
  cases ho : evA G es fx env with
  | ok d env1 => rw [ho] at p; exact fun v H1 F1 S1 r1 pk st => k d env1 v H1 F1 S1 p r1 pk st
  | exc w env1 => rw [ho] at p; exact px w env1 p
  | bad => rw [ho] at p; exact (pb p).elim
theorem bindR {α : Type} {es : List Xp} {fx : List Nat} {f : List D → List D → Out α} {Post : Out α → Prop} {Q : List V → Hp → Prop} (h : SR K W T G P es) (r : Rel K W.cl T F H σ env S) (px : ∀ w env', Post (.exc w env') → PostX K W T F H σ S E w env') (pb : ¬ Post .bad)
    (p : Post ((evR G es fx env).bind f)) (k : ∀ ds env1 vs H1 F1 S1, Post (f ds env1) → vs.length = ds.length → RefV σ es vs → Rel K W.cl T F1 H1 (vs.map some ++ σ) (ds ++ env1) S1 → Stp F H S F1 H1 S1 → Q vs H1) : rdA K P es E σ H Q := by
  refine h E fx env σ H F S Q r ?_
  cases ho : evR G es fx env with
  | ok d env1 => rw [ho] at p; exact fun v H1 F1 S1 l rv r1 st => k d env1 v H1 F1 S1 p l rv r1 st
  | exc w env1 => rw [ho] at p; exact px w env1 p
  | bad => rw [ho] at p; exact (pb p).elim

theorem sc_v (c : Cn) : Sc c.v c.d := by cases c <;> constructor
theorem se_c (c : Cn) : ∀ (E : XK) (fx : List Nat) (env : List D) (σ : L2.St) (H F : Hp) (S : List Addr) (Q : VK), Rel K W.cl T F H σ env S → PostE K W T F H σ S Q E (.ok c.d env) → tC c.v σ H Q := fun E fx env σ H F S Q r p => by
  obtain ⟨F', S', r', st⟩ := r.pres (.sc (sc_v c))
  exact p _ _ _ _ r' st
theorem se_v (i : Nat) : SE K W T G P (.v i) := fun E fx env σ H F S Q r p => by
  simp only [ev] at p
  split at p
  · rename_i d e
    split at p
    · rename_i hf
      obtain ⟨v, hv, r'⟩ := r.read e hf
      exact ⟨v, hv, p v H F S r' Stp.refl⟩
    · exact p.elim
  · exact p.elim
theorem se_mv (i : Nat) : SE K W T G P (.mv i) := fun E fx env σ H F S Q r p => by
  simp only [ev] at p
  split at p
  · rename_i d e
    split at p
    · exact p.elim
    · rename_i hf
      obtain ⟨v, S', hv, r', hS⟩ := r.take e (by rintro rfl; simp [isHole] at hf)
      exact ⟨v, hv, p v H F S' r' (Stp.refl.less fun q hq => (hS q).mp hq)⟩
  · exact p.elim
theorem se_pr {p : Pr} {es : List Xp} (h : SA K W T G P es) : SE K W T G P (.pr p es) := fun E fx env σ H F S Q r po => by
  simp only [ev] at po
  refine bindA h r (fun w env' z => z) (fun z => z) po fun ds env1 vs H1 F1 S1 po r1 pk st => ?_
  split at po
  · rename_i d e
    refine prim_sound r1.ex pk e fun v H' pr => ?_
    obtain ⟨F', S', r', st'⟩ := r1.pres pr
    exact po v H' F' S' r' (st.trans st')
  · exact po.elim
theorem se_and {a b : Xp} (ha : SE K W T G P a) (hb : SE K W T G P b) : SE K W T G P (.and a b) := fun E fx env σ H F S Q r p => by
  simp only [ev] at p
  show (rdX K P a E).1 σ H _
  refine bindE ha r (fun w env' _ z => z) (fun z => z) p fun d env1 v H1 F1 S1 _ p r1 st => ?_
  obtain ⟨Sa, Sb, rfl, o1, r2⟩ := r1.drop1
  split at p
  · cases o1.bl_inv
    exact ⟨true, rfl, by rw [if_pos rfl]; exact hb E fx env1 σ H1 F1 Sb Q r2 (p.from st fun q hq => by simp [hq])⟩
  · cases o1.bl_inv
    exact ⟨false, rfl, by rw [if_neg (by decide)]; exact p _ _ _ _ r1 st⟩
  · exact p.elim
theorem se_or {a b : Xp} (ha : SE K W T G P a) (hb : SE K W T G P b) : SE K W T G P (.or a b) := fun E fx env σ H F S Q r p => by
  simp only [ev] at p
  show (rdX K P a E).1 σ H _
  refine bindE ha r (fun w env' _ z => z) (fun z => z) p fun d env1 v H1 F1 S1 _ p r1 st => ?_
  obtain ⟨Sa, Sb, rfl, o1, r2⟩ := r1.drop1
  split at p
  · cases o1.bl_inv
    exact ⟨false, rfl, by rw [if_neg (by decide)]; exact hb E fx env1 σ H1 F1 Sb Q r2 (p.from st fun q hq => by simp [hq])⟩
  · cases o1.bl_inv
    exact ⟨true, rfl, by rw [if_pos rfl]; exact p _ _ _ _ r1 st⟩
  · exact p.elim
theorem se_not {a : Xp} (ha : SE K W T G P a) : SE K W T G P (.not a) := fun E fx env σ H F S Q r p => by
  simp only [ev] at p
  show (rdX K P a E).1 σ H _
  refine bindE ha r (fun w env' _ z => z) (fun z => z) p fun d env1 v H1 F1 S1 he0 p r1 st => ?_
  obtain ⟨Sa, Sb, rfl, o1, r2⟩ := r1.drop1
  split at p
  · cases o1.bl_inv
    refine ⟨_, rfl, ?_⟩
    obtain ⟨F', S', r', st'⟩ := r2.pres (.sc (.bl _))
    exact p _ _ _ _ r' (st.trans (st'.wide fun q hq => by simp [hq]))
  · exact p.elim
theorem se_fz {a : Xp} (ha : SE K W T G P a) : SE K W T G P (.fz a) := fun E fx env σ H F S Q r p => by
  simp only [ev] at p
  show (rdX K P a E).1 σ H Q
  refine ha E fx env σ H F S Q r ?_
  cases ho : ev G a fx env with
  | bad => rw [ho] at p; exact p.elim
  | exc w env1 => rw [ho] at p; exact p
  | ok d env1 =>
    rw [ho] at p
    intro v H1 F1 S1 r1 st1
    obtain ⟨F2, S2, r2, _, st2⟩ := r1.freeze
    exact p v H1 F2 S2 r2 (st1.trans st2)
theorem st_and {a b : Xp} (ha : ST K W T G P a) (hb : ST K W T G P b) : ST K W T G P (.and a b) := fun E fx env σ H F S Q r p => by
  simp only [ev] at p
  show (rdX K P a E).2 σ H _
  refine bindT' (Post := PostT K W T F H σ S Q E) ha r (fun w env' z => z) (fun z => z) (fun d env1 hd => ?_) p fun b0 env1 H1 F1 S1 p r1 st => ?_
  · cases d <;> first | rfl | exact (hd _ rfl).elim
  · cases b0 with
    | true =>
      show (if true = true then _ else _)
      rw [if_pos rfl]
      exact hb E fx env1 σ H1 F1 S1 Q r1 (p.from st fun q hq => hq)
    | false => exact p H1 F1 S1 r1 st
theorem st_or {a b : Xp} (ha : ST K W T G P a) (hb : ST K W T G P b) : ST K W T G P (.or a b) := fun E fx env σ H F S Q r p => by
  simp only [ev] at p
  show (rdX K P a E).2 σ H _
  refine bindT' (Post := PostT K W T F H σ S Q E) ha r (fun w env' z => z) (fun z => z) (fun d env1 hd => ?_) p fun b0 env1 H1 F1 S1 p r1 st => ?_
  · cases d <;> first | rfl | exact (hd _ rfl).elim
  · cases b0 with
    | false =>
      show (if false = true then _ else _)
      rw [if_neg (by decide)]
      exact hb E fx env1 σ H1 F1 S1 Q r1 (p.from st fun q hq => hq)
    | true => exact p H1 F1 S1 r1 st
theorem st_not {a : Xp} (ha : ST K W T G P a) : ST K W T G P (.not a) := fun E fx env σ H F S Q r p => by
  simp only [ev] at p
  show (rdX K P a E).2 σ H _
  refine bindT' (Post := PostT K W T F H σ S Q E) ha r (fun w env' z => z) (fun z => z) (fun d env1 hd => ?_) p fun b0 env1 H1 F1 S1 p r1 st => ?_
  · cases d <;> first | rfl | exact (hd _ rfl).elim
  · exact p H1 F1 S1 r1 st
theorem se_ite {c a b : Xp} (hc : ST K W T G P c) (ha : SE K W T G P a) (hb : SE K W T G P b) : SE K W T G P (.ite c a b) := fun E fx env σ H F S Q r p => by
  simp only [ev] at p
  show (rdX K P c E).2 σ H _
  refine bindT' (Post := PostE K W T F H σ S Q E) hc r (fun w env' z => z) (fun z => z) (fun d env1 hd => ?_) p fun b0 env1 H1 F1 S1 p r1 st => ?_
  · cases d <;> first | rfl | exact (hd _ rfl).elim
  · cases b0 with
    | true =>
      show (if true = true then _ else _)
      rw [if_pos rfl]
      exact ha E fx env1 σ H1 F1 S1 Q r1 (p.from st fun q hq => hq)
    | false =>
      show (if false = true then _ else _)
      rw [if_neg (by decide)]
      exact hb E fx env1 σ H1 F1 S1 Q r1 (p.from st fun q hq => hq)
theorem sa_nil : SA K W T G P [] := fun E fx env σ H F S Q r p => by
  simp only [evA] at p
  exact p [] H F S r .nil Stp.refl
theorem okSlot_inv {i : Nat} (h : okSlot i env = true) : ∃ d, env[i]? = some d ∧ d ≠ .hole := by
  unfold okSlot at h
  split at h
  · rename_i d e
    exact ⟨d, e, by rintro rfl; simp [isHole] at h⟩
  · cases h
theorem sa_v {i : Nat} {es : List Xp} (h : SA K W T G P es) : SA K W T G P (.v i :: es) := fun E fx env σ H F S Q r p => by
  simp only [evA] at p
  show ∃ v, σ[i]? = some (some v) ∧ rdA K P es E σ H fun vs H1 => Q (v :: vs) H1
  split at p
  · rename_i hk
    obtain ⟨d0, e0, hd0⟩ := okSlot_inv hk
    obtain ⟨v, hv⟩ := r.set i d0 e0 hd0
    refine ⟨v, hv, bindA h r (fun w env' z => z) (fun z => z) p fun ds env1 vs H1 F1 S1 p r1 pk st => ?_⟩
    split at p
    · rename_i d e
      split at p
      · exact p.elim
      · rename_i hd
        obtain ⟨v', S2, hv', ow⟩ := r1.look e (by simpa using hd)
        rw [hv] at hv'; cases hv'
        exact p _ H1 F1 S1 r1 (.cons ow pk) st
    · exact p.elim
  · exact p.elim
theorem evA_cons (e : Xp) (es : List Xp) (fx : List Nat) (env : List D) (h : ∀ i, e ≠ .v i) : evA G (e :: es) fx env = (ev G e fx env).bind fun d env1 => (evA G es fx env1).bind fun ds env2 => .ok (d :: ds) env2 := by
  cases e <;> first | rfl | exact (h _ rfl).elim
theorem evR_cons (e : Xp) (es : List Xp) (fx : List Nat) (env : List D) (h : ∀ i, e ≠ .rf i) : evR G (e :: es) fx env = (ev G e fx env).bind fun d env1 => (evR G es fx env1).bind fun ds env2 => .ok (d :: ds) env2 := by
  cases e <;> first | rfl | exact (h _ rfl).elim
theorem sa_cons {e : Xp} {es : List Xp} (hn : ∀ i, e ≠ .v i) (he : SE K W T G P e) (h : SA K W T G P es) : SA K W T G P (e :: es) := fun E fx env σ H F S Q r p => by
  rw [evA_cons e es fx env hn] at p
  show (rdX K P e E).1 σ H fun v H1 => rdA K P es E σ H1 fun vs H2 => Q (v :: vs) H2
  refine bindE he r (fun w env' _ z => z) (fun z => z) p fun d env1 v H1 F1 S1 _ p r1 st => ?_
  have dj := r1
  obtain ⟨Sa, Sb, rfl, o1, r2⟩ := r1.drop1
  refine bindA (Post := PostA K W T F H σ S Q E) h r2 (fun w env' z => PostX.from st (fun q hq => by simp [hq]) z) (fun z => z) p fun ds env2 vs H2 F2 S2 p r3 pk st2 => ?_
  exact p _ H2 F2 S2 r3 (.cons (st2.other o1 dj.disj) pk) (st.trans (st2.wide fun q hq => by simp [hq]))
theorem sr_nil : SR K W T G P [] := fun E fx env σ H F S Q r p => by
  simp only [evR] at p
  exact p [] H F S rfl trivial r Stp.refl
theorem sr_rf {i : Nat} {es : List Xp} (h : SR K W T G P es) : SR K W T G P (.rf i :: es) := fun E fx env σ H F S Q r p => by
  simp only [evR] at p
  show ∃ v, σ[i]? = some (some v) ∧ rdA K P es E σ H fun vs H1 => Q (v :: vs) H1
  split at p
  · rename_i hk
    obtain ⟨d0, e0, hd0⟩ := okSlot_inv hk
    obtain ⟨v, hv⟩ := r.set i d0 e0 hd0
    refine ⟨v, hv, bindR h r (fun w env' z => z) (fun z => z) p fun ds env1 vs H1 F1 S1 p hl rv r1 st => ?_⟩
    split at p
    · rename_i d e
      split at p
      · exact p.elim
      · rename_i hd
        obtain ⟨St, S2, rfl, ot, r2⟩ := r1.dropN hl
        obtain ⟨v', S3, hv', r3, hS3⟩ := r2.take e (by rintro rfl; simp [isHole] at hd)
        rw [hv] at hv'; cases hv'
        -- the values beside, then what was taken
        have st3 : Stp F1 H1 S2 F1 H1 S3 := Stp.refl.less fun q hq => (hS3 q).mp hq
        have r4 := Rel.frame ot (by simpa using r1.nd) (fun q hq => r1.dF q (by simp [hq])) st3 r3
        obtain ⟨Sa, Sb, rfl, oa, r5⟩ := r3.drop1
        have nd := r4.nd
        have nd2 : (Sa ++ (St ++ Sb)).Nodup := by
          simp only [List.nodup_append, List.mem_append] at nd ⊢
          grind
        have r6 := Rel.frame ot (S := Sb) (by simp only [List.nodup_append, List.mem_append] at nd ⊢; grind) (fun q hq => r1.dF q (by simp [hq])) Stp.refl r5
        have r7 := Rel.frame oa (by simpa using nd2) (fun q hq => r3.dF q (by simp [hq])) Stp.refl r6
        refine p (v :: vs) H1 F1 _ (by simp [hl]) ⟨hv, rv⟩ (by simpa using r7) (st.less fun q hq => ?_)
        have := (hS3 q).mp
        simp only [List.mem_append, List.nil_append] at hq this ⊢
        grind
    · exact p.elim
  · exact p.elim
theorem sr_cons {e : Xp} {es : List Xp} (hn : ∀ i, e ≠ .rf i) (he : SE K W T G P e) (h : SR K W T G P es) : SR K W T G P (e :: es) := fun E fx env σ H F S Q r p => by
  rw [evR_cons e es fx env hn] at p
  show (rdX K P e E).1 σ H fun v H1 => rdA K P es E σ H1 fun vs H2 => Q (v :: vs) H2
  refine bindE he r (fun w env' _ z => z) (fun z => z) p fun d env1 v H1 F1 S1 _ p r1 st => ?_
  have dj := r1
  obtain ⟨Sa, Sb, rfl, o1, r2⟩ := r1.drop1
  refine bindR (Post := PostR K W T (e :: es) F H σ S Q E) h r2 (fun w env' z => PostX.from st (fun q hq => by simp [hq]) z) (fun z => z) p fun ds env2 vs H2 F2 S2 p hl rv r3 st2 => ?_
  have r4 := Rel.frame o1 (by simpa using dj.nd) (fun q hq => dj.dF q (by simp [hq])) st2 r3
  exact p (v :: vs) H2 F2 _ (by simp [hl]) (by cases e <;> first | exact rv | exact (hn _ rfl).elim) (by simpa using r4) (st.trans (st2.frame o1))
/-! displays -/
theorem any_hole {ds : List D} (h : ds.any isHole = false) : ∀ d ∈ ds, d ≠ .hole := fun d hd z => by
  rw [List.any_eq_false] at h
  exact h d hd (by rw [z]; rfl)
end
end Wap
set_option Elab.async false
set_option linter.all false
set_option maxRecDepth 100000
set_option maxHeartbeats 1000000
/-! W7: displays, calls, methods that change lists, chains, slices. -/
namespace Wap
open PySem L2
section
variable {K : PySem.W.Frag} {W : Wd} {T : List (Addr × Str)} {G : Gam} {P : Nat → Sp} {F F' F1 F2 H H' H1 H2 : Hp} {σ σ' : L2.St} {env env' : List D} {S S' S1 S2 S3 : List Addr} {v u : V} {d : D} {E : XK} {cl : Nat → Addr}
theorem se_lst {es : List Xp} (h : SR K W T G P es) : SE K W T G P (.lst es) := fun E fx env σ H F S Q r p => by
  simp only [ev] at p
  show rdA K P es E σ H _
  refine bindR h r (fun w env' z => z) (fun z => z) p fun ds env1 vs H1 F1 S1 p hl rv r1 st => ?_
  split at p
  · exact p.elim
  · rename_i hc
    simp only [Bool.or_eq_true, Bool.not_eq_true', decide_eq_false_iff_not, not_or, Bool.not_eq_true, Decidable.not_not] at hc
    refine ⟨by rw [hl, ← sizeLim]; exact hc.2, fun q hq => ?_⟩
    obtain ⟨r2, st2⟩ := r1.alloc (k := .lst) hl hq rfl
    exact p _ _ _ _ r2 (st.trans st2)
theorem fz_of_any {ds : List D} (h : anyOwn ds = false) : ds.all fz = true := by
  unfold anyOwn at h
  rw [List.any_eq_false] at h
  rw [List.all_eq_true]
  intro d hd
  simpa using h d hd
theorem se_tup {es : List Xp} (h : SR K W T G P es) : SE K W T G P (.tup es) := fun E fx env σ H F S Q r p => by
  simp only [ev] at p
  show rdA K P es E σ H _
  refine bindR h r (fun w env' z => z) (fun z => z) p fun ds env1 vs H1 F1 S1 p hl rv r1 st => ?_
  split at p
  · exact p.elim
  · rename_i hc
    simp only [Bool.or_eq_true, Bool.not_eq_true', decide_eq_false_iff_not, not_or, Bool.not_eq_true, Decidable.not_not] at hc
    refine ⟨by rw [hl, ← sizeLim]; exact hc.2, fun q hq => ?_⟩
    cases ho : anyOwn ds with
    | true =>
      rw [ho] at p
      obtain ⟨r2, st2⟩ := r1.alloc (k := .tup) hl hq rfl
      exact p _ _ _ _ r2 (st.trans st2)
    | false =>
      rw [ho] at p
      have hz := fz_of_any ho
      obtain ⟨St, Ss, rfl, ot, r2⟩ := r1.dropN hl
      obtain ⟨rp, rfl⟩ := ot.to_reps (by simpa using hz)
      obtain ⟨F', S', r3, st3⟩ := r2.pres (.new (m := false) hq (k := .tup) rfl rp hz)
      exact p _ _ _ _ r3 (st.trans (st3.wide fun q hq => by simp [hq]))
/-- what was lent comes back into its slots -/
theorem putB_rel {τ : L2.St} {td : List D} (hτ : τ.length = td.length) : ∀ (es : List Xp) (ws : List V) (outs : List D) (vs : List V) (fx : List Nat) (j : Nat) (env : List D) (S : List Addr), ws.length = outs.length → refsOk fx j es = true → RefV σ es vs → (∀ i, j + i ∈ fx → ws[i]? = vs[i]?) → es.length = vs.length → es.length ≤ outs.length →
    Rel K cl T F H (ws.map some ++ (τ ++ σ)) (outs ++ (td ++ env)) S → ∃ S', Rel K cl T F H (τ ++ σ) (td ++ putB es outs env) S' ∧ ∀ p ∈ S', p ∈ S
  | [], ws, outs, vs, fx, j, env, S, hl, _, _, _, _, _, r => by
    obtain ⟨S1, S2, rfl, _, r2⟩ := r.dropN hl
    have e : putB [] outs env = env := by cases outs <;> rfl
    rw [e]
    exact ⟨S2, r2, fun p hp => by simp [hp]⟩
  | e :: es, [], [], vs, fx, j, env, S, _, _, _, _, _, h0, _ => by simp at h0
  | e :: es, [], _ :: _, vs, fx, j, env, S, h0, _, _, _, _, _, _ => by simp at h0
  | e :: es, _ :: _, [], vs, fx, j, env, S, h0, _, _, _, _, _, _ => by simp at h0
  | e :: es, w :: ws, o :: outs, [], fx, j, env, S, _, _, _, _, h0, _, _ => by simp at h0
  | e :: es, w :: ws, o :: outs, v :: vs, fx, j, env, S, hl, hok, hrv, hfx, hlv, hlo, r => by
    have hl' : ws.length = outs.length := by simpa using hl
    have hlv' : es.length = vs.length := by simpa using hlv
    have hlo' : es.length ≤ outs.length := by simpa using hlo
    have step : ∀ i, j + 1 + i ∈ fx → ws[i]? = vs[i]? := fun i hi => by
      have := hfx (i + 1) (by rw [← Nat.add_assoc, Nat.add_right_comm]; exact hi)
      simpa using this
    have rest : ∀ {env' : List D} {S' : List Addr}, refsOk fx (j + 1) es = true → RefV σ es vs → Rel K cl T F H (ws.map some ++ (τ ++ σ)) (outs ++ (td ++ env')) S' → ∃ S'', Rel K cl T F H (τ ++ σ) (td ++ putB es outs env') S'' ∧ ∀ p ∈ S'', p ∈ S' :=
      fun h1 h2 h3 => putB_rel hτ es ws outs vs fx (j + 1) _ _ hl' h1 h2 step hlv' hlo' h3
    have r' : Rel K cl T F H (some w :: (ws.map some ++ (τ ++ σ))) (o :: (outs ++ (td ++ env))) S := r
    by_cases hrf : ∃ i, e = .rf i
    · obtain ⟨i, rfl⟩ := hrf
      have hok : (fx.contains j && refsOk fx (j + 1) es) = true := hok
      rw [Bool.and_eq_true] at hok
      obtain ⟨hv, hrv⟩ := hrv
      have hw : w = v := by
        have := hfx 0 (by simpa using hok.1)
        simpa using this
      subst hw
      have hi : i < σ.length := (List.getElem?_eq_some_iff.mp hv).1
      have hlen := r'.len
      have hi2 : i < env.length := by
        simp only [List.length_cons, List.length_append, List.length_map] at hlen
        omega
      obtain ⟨S2, r2, hs2⟩ := r'.store (i := outs.length + (td.length + i)) (by simp; omega)
      have e1 : (ws.map some ++ (τ ++ σ)).set (outs.length + (td.length + i)) (some w) = ws.map some ++ (τ ++ σ) := by
        rw [List.set_append_right _ _ (by simp; omega), List.set_append_right _ _ (by simp; omega)]
        congr 2
        have : outs.length + (td.length + i) - (ws.map some).length - τ.length = i := by simp; omega
        rw [this]
        have : σ[i] = some w := by rw [List.getElem?_eq_getElem hi] at hv; simpa using hv
        rw [← this, List.set_getElem_self]
      have e2 : (outs ++ (td ++ env)).set (outs.length + (td.length + i)) o = outs ++ (td ++ env.set i o) := by
        rw [List.set_append_right _ _ (by omega), List.set_append_right _ _ (by omega)]
        congr 3
        omega
      rw [e1, e2] at r2
      obtain ⟨S3, r3, hs3⟩ := rest hok.2 hrv r2
      exact ⟨S3, r3, fun p hp => hs2 p (hs3 p hp)⟩
    · have e1 : putB (e :: es) (o :: outs) env = putB es outs env := by cases e <;> first | rfl | exact (hrf ⟨_, rfl⟩).elim
      have e2 : refsOk fx (j + 1) es = true := by cases e <;> first | exact hok | exact (hrf ⟨_, rfl⟩).elim
      have e3 : RefV σ es vs := by cases e <;> first | exact hrv | exact (hrf ⟨_, rfl⟩).elim
      obtain ⟨S1, S2, rfl, _, r2⟩ := r'.drop1
      obtain ⟨S3, r3, hs3⟩ := rest e2 e3 r2
      rw [e1]
      exact ⟨S3, r3, fun p hp => by simp [hs3 p hp]⟩
theorem evR_len : ∀ (es : List Xp) (fx : List Nat) (env : List D) (ds : List D) (env' : List D), evR G es fx env = .ok ds env' → ds.length = es.length
  | [], fx, env, ds, env', h => by simp only [evR] at h; cases h; rfl
  | e :: es, fx, env, ds, env', h => by
    by_cases hrf : ∃ i, e = .rf i
    · obtain ⟨i, rfl⟩ := hrf
      simp only [evR] at h
      split at h
      · cases ho : evR G es fx env with
        | ok ds1 env1 =>
          rw [ho] at h
          have h : (match env1[i]? with | some d => if isHole d = true then Out.bad else .ok (d :: ds1) (env1.set i .hole) | none => .bad) = .ok ds env' := h
          split at h
          · split at h
            · cases h
            · cases h; simp [evR_len es fx env ds1 env1 ho]
          · cases h
        | exc w env1 => rw [ho] at h; cases h
        | bad => rw [ho] at h; cases h
      · cases h
    · rw [evR_cons e es fx env (fun i z => hrf ⟨i, z⟩)] at h
      cases h1 : ev G e fx env with
      | ok d env1 =>
        rw [h1] at h
        have h : ((evR G es fx env1).bind fun ds env2 => Out.ok (d :: ds) env2) = .ok ds env' := h
        cases h2 : evR G es fx env1 with
        | ok ds1 env2 => rw [h2] at h; cases h; simp [evR_len es fx env1 ds1 _ h2]
        | exc w env1 => rw [h2] at h; cases h
        | bad => rw [h2] at h; cases h
      | exc w env1 => rw [h1] at h; cases h
      | bad => rw [h1] at h; cases h
theorem Rel.args {vs : List V} {ds : List D} (r : Rel K cl T F H σ env S) (o : Owns K cl F H vs ds S1) (nd : S1.Nodup) (hF : ∀ p ∈ S1, F p = none) : Rel K cl T F H (vs.map some) ds S1 := by
  have := Rel.frame (σ' := []) (env' := []) (S' := []) (S := []) o (by simpa using nd) hF Stp.refl r.empty
  simpa using this
/-- f(..) -/
theorem se_call (hG : GOk K W T G P) {f : Nat} {es : List Xp} (h : SR K W T G P es) (hlen : ∀ ds, (match G.run f ds with | .ok _ outs => ds.length ≤ outs.length | .exc _ outs => ds.length ≤ outs.length | .bad => True)) : SE K W T G P (.call f es) := fun E fx env σ H F S Q r p => by
  simp only [ev] at p
  show rdA K P es E σ H fun vs H1 => P f (vs ++ []) H1 Q E
  refine h E fx env σ H F S _ r ?_
  cases ho : evR G es fx env with
  | bad => rw [ho] at p; exact p.elim
  | exc w env1 => rw [ho] at p; exact p
  | ok ds env1 =>
    rw [ho] at p
    have p : PostE K W T F H σ S Q E (callFin (G.fx f) es env1 (G.run f ds)) := p
    intro vs H1 F1 S1 hl rv r1 st
    rw [List.append_nil]
    have hle := evR_len es fx env ds env1 ho
    obtain ⟨St, Ss, rfl, ot, r2⟩ := r1.dropN hl
    have nd := r1.nd
    have ra := r2.args ot (List.nodup_append.mp nd).1 fun q hq => r1.dF q (by simp [hq])
    refine hG f ds vs F1 H1 St Q E hl ra ?_
    have hll := hlen ds
    -- the caller's part beside what the callee leaves
    have back : ∀ {τ : L2.St} {td : List D} {σ' : L2.St} {outs : List D} {H' F' : Hp} {S' : List Addr}, τ.length = td.length → ds.length ≤ outs.length → Rel K W.cl T F' H' (τ ++ σ') (td ++ outs) S' → (∀ i d, (td ++ outs)[i]? = some d → i < td.length → d ≠ .hole → True) → Stp F1 H1 St F' H' S' → (∀ i ∈ G.fx f, σ'[i]? = (vs.map some)[i]?) → refsOk (G.fx f) 0 es = true →
        (∃ ts : List V, τ = ts.map some) → ∃ S2, Rel K W.cl T F' H' (τ ++ σ) (td ++ putB es outs env1) S2 ∧ Stp F H S F' H' S2 := by
      intro τ td σ' outs H' F' S' hτ hlo rc _ st2 hfx hok hts
      obtain ⟨ts, rfl⟩ := hts
      have hτ' : ts.length = td.length := by simpa using hτ
      -- the caller's slots over the call
      have dis := r1.disj
      have os : Owns K W.cl F' H' (vals σ) env1 Ss := st2.other r2.own fun q hq z => dis q z hq
      obtain ⟨Sa, Sb, rfl, oa, rb⟩ := rc.dropN hτ'
      have hH : ∀ q ∈ Ss, ∃ o, H1 q = some o := fun q hq => by
        obtain ⟨_, _, o, e, _⟩ := r2.own.there q hq
        exact ⟨o, e⟩
      have sep : ∀ q ∈ Ss, q ∉ Sa ++ Sb := fun q hq z => by
        rcases st2.newS q z with y | y
        · exact dis q y hq
        · obtain ⟨o, e⟩ := hH q hq
          rw [e] at y; cases y
      have hFs : ∀ q ∈ Ss, F' q = none := fun q hq => by
        cases e : F' q with
        | none => rfl
        | some o =>
          rcases st2.newF q o e (r1.dF q (by simp [hq])) with y | y
          · obtain ⟨o, e⟩ := hH q hq
            rw [e] at y; cases y
          · exact (dis q y hq).elim
      have nb := rc.nd
      have rs : Rel K W.cl T F' H' σ env1 Ss := ⟨os, r2.set, r2.nd, hFs, rc.ex, rc.nt, rc.tab⟩
      have rt := Rel.frame oa (S := Ss) (by
        simp only [List.nodup_append, List.mem_append] at nb sep ⊢
        have := r2.nd
        grind) (fun q hq => rc.dF q (by simp [hq])) Stp.refl rs
      -- the callee's slots
      have hvl : (vals σ').length = outs.length := by rw [vals_length]; exact rb.len
      have rall := Rel.frame (vs := vals σ') (ds := outs) (S1 := Sb) rb.own (S := Sa ++ Ss) (by
        simp only [List.nodup_append, List.mem_append] at nb sep ⊢
        have := r2.nd
        grind) (fun q hq => rc.dF q (by simp [hq])) Stp.refl rt
      have hfx' : ∀ i, 0 + i ∈ G.fx f → (vals σ')[i]? = vs[i]? := fun i hi => by
        have e := hfx i (by simpa using hi)
        unfold vals
        rw [List.getElem?_map, e, List.getElem?_map]
        cases vs[i]? <;> rfl
      obtain ⟨S2, r3, hs3⟩ := putB_rel (τ := ts.map some) (td := td) (by simpa using hτ') es (vals σ') outs vs (G.fx f) 0 env1 _ hvl hok rv hfx' (by omega) (by omega) rall
      refine ⟨S2, r3, ?_⟩
      have tot : Stp F1 H1 (St ++ Ss) F' H' (Sb ++ (Sa ++ Ss)) := by
        refine ⟨st2.exF, fun q o e n hs => st2.keep q o e n (fun z => hs (by simp [z])), st2.dom, fun q o e n => (st2.newF q o e n).imp id fun z => by simp [z], fun q hq => ?_⟩
        rcases List.mem_append.mp hq with y | y
        · exact (st2.newS q (by simp [y])).imp (fun z => by simp [z]) id
        · rcases List.mem_append.mp y with y | y
          · exact (st2.newS q (by simp [y])).imp (fun z => by simp [z]) id
          · exact .inl (by simp [y])
      exact (st.trans tot).less hs3
    cases hr : G.run f ds with
    | bad => rw [hr] at p; exact p.elim
    | ok d outs =>
      rw [hr] at p hll
      intro v σ' H' F' S' rc st2 hfx
      have p : PostE K W T F H σ S Q E (if refsOk (G.fx f) 0 es = true then .ok d (putB es outs env1) else .bad) := p
      split at p
      · rename_i hok
        obtain ⟨S2, r3, st3⟩ := back (τ := [some v]) (td := [d]) rfl hll rc (fun _ _ _ _ _ => trivial) st2 hfx hok ⟨[v], rfl⟩
        exact p v H' F' S2 r3 st3
      · exact p.elim
    | exc w outs =>
      rw [hr] at p hll
      intro dd σ' H' F' S' rc st2 hfx hx
      have p : PostE K W T F H σ S Q E (if refsOk (G.fx f) 0 es = true then .exc w (putB es outs env1) else .bad) := p
      split at p
      · rename_i hok
        obtain ⟨S2, r3, st3⟩ := back (τ := []) (td := []) rfl hll rc (fun _ _ _ _ _ => trivial) st2 hfx hok ⟨[], rfl⟩
        exact p dd H' F' S2 r3 st3 hx
      · exact p.elim
theorem okLst_inv {i : Nat} (h : okLst i env = true) : ∃ o xs, env[i]? = some (.nd .lst o xs) := by
  unfold okLst at h
  split at h
  · exact ⟨_, _, by assumption⟩
  · cases h
theorem one_of {vs : List V} (h : vs.length = [d].length) : ∃ v, vs = [v] := by
  match vs, h with
  | [v], _ => exact ⟨v, rfl⟩
theorem two_of {d' : D} {vs : List V} (h : vs.length = [d, d'].length) : ∃ v u, vs = [v, u] := by
  match vs, h with
  | [v, u], _ => exact ⟨v, u, rfl⟩
theorem Owns.sub {vs : List V} {ds : List D} (f : List V → List V) (g : List D → List D) : True := trivial
theorem Owns.take {vs : List V} {ds : List D} (h : Owns K cl F H vs ds S) (n : Nat) : ∃ S1 S2, S = S1 ++ S2 ∧ Owns K cl F H (vs.take n) (ds.take n) S1 ∧ Owns K cl F H (vs.drop n) (ds.drop n) S2 := by
  have hl := h.length
  have h' : Owns K cl F H (vs.take n ++ vs.drop n) (ds.take n ++ ds.drop n) S := by rw [List.take_append_drop, List.take_append_drop]; exact h
  exact Owns.app_inv (by simp; omega) h'
theorem Owns.reverse {vs : List V} {ds : List D} (h : Owns K cl F H vs ds S) : ∃ S', Owns K cl F H vs.reverse ds.reverse S' ∧ S'.Perm S := by
  induction ds generalizing vs S with
  | nil =>
    have := h.length
    have : vs = [] := List.eq_nil_of_length_eq_zero (by simpa using this)
    subst this
    exact ⟨S, h, .refl _⟩
  | cons d ds ih =>
    cases vs with
    | nil => have := h.length; simp at this
    | cons v vs =>
      obtain ⟨S1, S2, rfl, h1, h2⟩ := h.cons_inv
      obtain ⟨S3, h3, p3⟩ := ih h2
      refine ⟨S3 ++ S1, by simpa using h3.append h1, ?_⟩
      exact (p3.append_right S1).trans List.perm_append_comm
/-- a list's method: what the list becomes, what comes out -/
theorem mu_sound {m : Mu} {xs ds ys : List D} {us vs : List V} {Sc St : List Addr} (oc : Owns K cl F H us xs Sc) (ot : Owns K cl F H vs ds St) (nd : (St ++ Sc).Nodup) (em : muF m xs ds = some (d, ys)) :
    ∃ us' w Sn Sr, Owns K cl F H us' ys Sn ∧ Owns K cl F H [w] [d] Sr ∧ (Sr ++ Sn).Nodup ∧ (∀ q ∈ Sr ++ Sn, q ∈ St ++ Sc) ∧ ∀ (p : Addr) (Q : VK), H p = some (.lst us) → Q w (upd H p (.lst us')) → rMu m (.ref p) vs H Q := by
  have lc := oc.length
  have lt := ot.length
  have ndc := (List.nodup_append.mp nd).2.1
  unfold muF at em
  split at em
  · split at em
    · rename_i hz
      cases em
      obtain ⟨w, rfl⟩ := one_of lt
      refine ⟨us ++ [w], .non, Sc ++ St, [], oc.append ot, .sc .non .nil, ?_, ?_, fun p Q hH q => ⟨p, us, w, rfl, rfl, hH, by rw [lc, ← sizeLim]; exact hz, q⟩⟩
      · simp only [List.nodup_append, List.mem_append, List.nil_append] at nd ⊢; grind
      · simp only [List.mem_append, List.nil_append]; grind
    · cases em
  · split at em
    · rename_i y hy
      cases em
      have hvs : vs = [] := List.eq_nil_of_length_eq_zero (by simpa using lt)
      subst hvs
      obtain ⟨w, S1, Si, S2, hw, rfl, o1, o2, o3⟩ := oc.split hy
      have e1 : us.take (xs.length - 1) = us.dropLast := by rw [List.dropLast_eq_take, lc]
      have e2 : xs.take (xs.length - 1) = xs.dropLast := by rw [List.dropLast_eq_take]
      rw [e1, e2] at o1
      refine ⟨us.dropLast, w, S1, Si, o1, o2, ?_, ?_, fun p Q hH q => ⟨p, us, w, rfl, rfl, hH, by rw [lc]; exact hw, q⟩⟩
      · simp only [List.nodup_append, List.mem_append] at ndc ⊢; grind
      · simp only [List.mem_append]; grind
    · cases em
  · split at em
    · rename_i hz
      split at em
      · rename_i k hk
        rw [Option.map_eq_some_iff] at em
        obtain ⟨y, hy, em⟩ := em
        cases em
        obtain ⟨w0, rfl⟩ := one_of lt
        cases ot.int_inv
        obtain ⟨w, S1, Si, S2, hw, rfl, o1, o2, o3⟩ := oc.split hy
        obtain ⟨q1, q2, q3, q4⟩ := ixN_seq hk
        refine ⟨us.eraseIdx k, w, S1 ++ S2, Si, ?_, o2, ?_, ?_, fun p Q hH q => ⟨p, us, _, k, w, rfl, rfl, hH, hz.1, hz.2, by rw [lc]; exact q1, hw, q⟩⟩
        · rw [List.eraseIdx_eq_take_drop_succ, List.eraseIdx_eq_take_drop_succ]
          exact o1.append o3
        · simp only [List.nodup_append, List.mem_append] at ndc ⊢; grind
        · simp only [List.mem_append]; grind
      · cases em
    · cases em
  · cases em
    have hvs : vs = [] := List.eq_nil_of_length_eq_zero (by simpa using lt)
    subst hvs
    obtain ⟨S', h', pm⟩ := oc.reverse
    refine ⟨us.reverse, .non, S', [], h', .sc .non .nil, by simpa using pm.nodup_iff.mpr ndc, fun q hq => ?_, fun p Q hH q => ⟨p, us, rfl, rfl, hH, q⟩⟩
    have := pm.mem_iff.mp (by simpa using hq)
    simp [this]
  · cases em
    have hvs : vs = [] := List.eq_nil_of_length_eq_zero (by simpa using lt)
    subst hvs
    exact ⟨[], .non, [], [], .nil, .sc .non .nil, by simp, by simp, fun p Q hH q => ⟨p, us, rfl, rfl, hH, q⟩⟩
  · split at em
    · rename_i hz
      cases em
      obtain ⟨w0, w, rfl⟩ := two_of lt
      obtain ⟨Sa, Sb, rfl, oa, ob⟩ := ot.cons_inv
      cases oa.int_inv
      have oa' := oa.to_reps (by simp [fz])
      obtain ⟨_, rfl⟩ := oa'
      obtain ⟨S1, S2, rfl, o1, o2⟩ := oc.take _
      refine ⟨_, .non, S1 ++ Sb ++ S2, [], (o1.append ob).append o2, .sc .non .nil, ?_, ?_, fun p Q hH q => ⟨p, us, _, w, rfl, rfl, hH, by rw [lc, ← sizeLim]; exact hz.1, hz.2.1, hz.2.2, q⟩⟩
      · simp only [List.nodup_append, List.mem_append, List.nil_append] at nd ⊢; grind
      · simp only [List.mem_append, List.nil_append]; grind
    · cases em
  · cases em
/-- x.append(..) and its like -/
theorem se_mut {i : Nat} {m : Mu} {es : List Xp} (h : SR K W T G P es) : SE K W T G P (.mut i m es) := fun E fx env σ H F S Q r p => by
  simp only [ev] at p
  split at p
  · rename_i hk
    obtain ⟨o0, xs0, e0⟩ := okLst_inv hk
    obtain ⟨v0, S0, hv0, ow0⟩ := r.look e0 rfl
    obtain ⟨p0, us0, rfl, hp0, _, _⟩ := ow0.lst_inv r.ex
    refine ⟨.ref p0, hv0, .inl ⟨rfl, us0, .inl (.inl hp0)⟩, ?_⟩
    refine bindR h r (fun w env' z => z) (fun z => z) p fun ds env1 vs H1 F1 S1 p hl rv r1 st => ?_
    split at p
    · rename_i xs e1
      obtain ⟨q, o, us, Sc, St, hq, hH, ho, oc, ot, nd, mk⟩ := r1.mut hl e1
      rw [hv0] at hq; cases hq
      cases ho
      split at p
      · rename_i d ys em
        obtain ⟨us', w, Sn, Sr, on, orr, nd2, sub, fin⟩ := mu_sound oc ot nd em
        refine fin p0 Q hH ?_
        obtain ⟨S', r2, st2⟩ := mk (.lst us') .lst us' ys Sn [w] [d] Sr rfl on orr nd2 sub
        exact p _ _ _ _ (by simpa using r2) (st.trans st2)
      · exact p.elim
    · exact p.elim
  · exact p.elim
/-- a < b < c -/
theorem se_chn {p q : Pr} {a b c : Xp} (ha : SE K W T G P a) (hb : SE K W T G P b) (hc : SE K W T G P c) : SE K W T G P (.chn p q a b c) := fun E fx env σ H F S Q r po => by
  simp only [ev] at po
  show (rdX K P a E).1 σ H _
  refine bindE ha r (fun w env' _ z => z) (fun z => z) po fun x env1 v1 H1 F1 S1 _ po r1 st1 => ?_
  have d1 := r1
  obtain ⟨Sa, Sb, rfl, o1, r1'⟩ := r1.drop1
  refine bindE (Post := PostE K W T F H σ S Q E) hb r1' (fun w env' _ z => PostX.from st1 (fun q hq => by simp [hq]) z) (fun z => z) po fun y env2 v2 H2 F2 S2 _ po r2 st2 => ?_
  have o1' := st2.other o1 d1.disj
  have d2 := r2
  obtain ⟨Sc, Sd, rfl, o2, r2'⟩ := r2.drop1
  have st12 : Stp F H S F2 H2 (Sc ++ Sd) := st1.trans (st2.wide fun q hq => by simp [hq])
  have pks : Pks K W.cl F2 H2 [v1, v2] [x, y] := .cons o1' (.cons o2 .nil)
  split at po
  · rename_i e1
    refine prim_sound r2'.ex pks e1 fun z H3 pr => ?_
    cases pr with
    | sc s =>
      cases s
      refine ⟨true, rfl, ?_⟩
      rw [if_pos rfl]
      split at po
      · rename_i hf
        refine bindE (Post := PostE K W T F H σ S Q E) hc r2' (fun w env' _ z => PostX.from st12 (fun q hq => by simp [hq]) z) (fun z => z) po fun z env3 v3 H3 F3 S3 _ po r3 st3 => ?_
        have o2' := st3.other o2 d2.disj
        obtain ⟨Se, Sf, rfl, o3, r3'⟩ := r3.drop1
        split at po
        · rename_i d e2
          refine prim_sound r3'.ex (.cons o2' (.cons o3 .nil)) e2 fun w H4 pr => ?_
          obtain ⟨F', S', r', st'⟩ := r3'.pres pr
          exact po w H4 F' S' r' ((st12.trans (st3.wide fun q hq => by simp [hq])).trans (st'.wide fun q hq => by simp [hq]))
        · exact po.elim
      · exact po.elim
    | rd rp hf => cases rp with | sc s _ => cases s; exact ⟨true, rfl, by
        rw [if_pos rfl]
        split at po
        · rename_i hf
          refine bindE (Post := PostE K W T F H σ S Q E) hc r2' (fun w env' _ z => PostX.from st12 (fun q hq => by simp [hq]) z) (fun z => z) po fun z env3 v3 H3 F3 S3 _ po r3 st3 => ?_
          have o2' := st3.other o2 d2.disj
          obtain ⟨Se, Sf, rfl, o3, r3'⟩ := r3.drop1
          split at po
          · rename_i d e2
            refine prim_sound r3'.ex (.cons o2' (.cons o3 .nil)) e2 fun w H4 pr => ?_
            obtain ⟨F', S', r', st'⟩ := r3'.pres pr
            exact po w H4 F' S' r' ((st12.trans (st3.wide fun q hq => by simp [hq])).trans (st'.wide fun q hq => by simp [hq]))
          · exact po.elim
        · exact po.elim⟩
  · rename_i e1
    refine prim_sound r2'.ex pks e1 fun z H3 pr => ?_
    have fin : z = .bl false ∧ H3 = H2 := by
      cases pr with
      | sc s => cases s; exact ⟨rfl, rfl⟩
      | rd rp _ => cases rp with | sc s _ => cases s; exact ⟨rfl, rfl⟩
    obtain ⟨rfl, rfl⟩ := fin
    refine ⟨false, rfl, ?_⟩
    rw [if_neg (by decide)]
    obtain ⟨F', S', r', st'⟩ := r2'.pres (.sc (.bl false))
    exact po _ _ F' S' r' (st12.trans (st'.wide fun q hq => by simp [hq]))
  · exact po.elim
/-- a[b:c] -/
theorem se_slc {a b c : Xp} (ha : SE K W T G P a) (hb : SE K W T G P b) (hc : SE K W T G P c) : SE K W T G P (.slc a b c) := fun E fx env σ H F S Q r po => by
  show (rdX K P a E).1 σ H fun x H1 => (rdX K P b E).1 σ H1 fun y H2 => ∃ i, y = .int i ∧ (rdX K P c E).1 σ H2 fun z H3 => ∃ j, z = .int j ∧ rSl K x (some i) (some j) H3 Q
  by_cases hn : ∃ n, a = .v n
  · obtain ⟨n, rfl⟩ := hn
    simp only [ev] at po
    split at po
    · rename_i hk
      obtain ⟨d0, e0, hd0⟩ := okSlot_inv hk
      obtain ⟨v, hv⟩ := r.set n d0 e0 hd0
      refine ⟨v, hv, ?_⟩
      refine bindE hb r (fun w env' _ z => z) (fun z => z) po fun x env1 v1 H1 F1 S1 _ po r1 st1 => ?_
      obtain ⟨Sa, Sb, rfl, o1, r1'⟩ := r1.drop1
      split at po
      · cases o1.int_inv
        refine ⟨_, rfl, ?_⟩
        refine bindE (Post := PostE K W T F H σ S Q E) hc r1' (fun w env' _ z => PostX.from st1 (fun q hq => by simp [hq]) z) (fun z => z) po fun y env2 v2 H2 F2 S2 hev po r2 st2 => ?_
        obtain ⟨Sc, Sd, rfl, o2, r2'⟩ := r2.drop1
        split at po
        · rename_i e2
          cases o2.int_inv
          refine ⟨_, rfl, ?_⟩
          split at po
          · rename_i d ec
            obtain ⟨v', Sx, hv', ox⟩ := r2'.look e2 (by
              cases hx : isHole _ with
              | false => rfl
              | true =>
                unfold isHole at hx
                split at hx
                · simp [cutP] at ec
                · cases hx)
            rw [hv] at hv'; cases hv'
            refine cut_sound r2'.ex ox ec fun w H4 pr => ?_
            obtain ⟨F', S', r', st'⟩ := r2'.pres pr
            exact po w H4 F' S' r' ((st1.trans (st2.wide fun q hq => by simp [hq])).trans (st'.wide fun q hq => by simp [hq]))
          · exact po.elim
        · exact po.elim
      · exact po.elim
    · exact po.elim
  · have eq : ev G (.slc a b c) fx env = (ev G a fx env).bind fun x env1 => (ev G b fx env1).bind fun i env2 => match i with
      | .int i => (ev G c fx env2).bind fun j env3 => match j with
        | .int j => match cutP x (some i) (some j) with
          | some d => .ok d env3
          | none => .bad
        | _ => .bad
      | _ => .bad := by cases a <;> first | rfl | exact (hn ⟨_, rfl⟩).elim
    rw [eq] at po
    refine bindE ha r (fun w env' _ z => z) (fun z => z) po fun x env1 v1 H1 F1 S1 _ po r1 st1 => ?_
    have d1 := r1
    obtain ⟨Sa, Sb, rfl, o1, r1'⟩ := r1.drop1
    refine bindE (Post := PostE K W T F H σ S Q E) hb r1' (fun w env' _ z => PostX.from st1 (fun q hq => by simp [hq]) z) (fun z => z) po fun i env2 v2 H2 F2 S2 _ po r2 st2 => ?_
    have o1' := st2.other o1 d1.disj
    have hS : ∀ q ∈ Sa, q ∉ S2 := fun q hq z => by
      rcases st2.newS q z with y | y
      · exact d1.disj q hq y
      · obtain ⟨_, _, o, e, _⟩ := o1.there q hq
        rw [e] at y; cases y
    obtain ⟨Sc, Sd, rfl, o2, r2'⟩ := r2.drop1
    have st12 : Stp F H S F2 H2 (Sc ++ Sd) := st1.trans (st2.wide fun q hq => by simp [hq])
    split at po
    · cases o2.int_inv
      refine ⟨_, rfl, ?_⟩
      refine bindE (Post := PostE K W T F H σ S Q E) hc r2' (fun w env' _ z => PostX.from st12 (fun q hq => by simp [hq]) z) (fun z => z) po fun y env3 v3 H3 F3 S3 _ po r3 st3 => ?_
      have o1'' := st3.other o1' fun q hq z => hS q hq (by simp [z])
      obtain ⟨Se, Sf, rfl, o3, r3'⟩ := r3.drop1
      split at po
      · cases o3.int_inv
        refine ⟨_, rfl, ?_⟩
        split at po
        · rename_i d ec
          refine cut_sound r3'.ex o1'' ec fun w H4 pr => ?_
          obtain ⟨F', S', r', st'⟩ := r3'.pres pr
          exact po w H4 F' S' r' ((st12.trans (st3.wide fun q hq => by simp [hq])).trans (st'.wide fun q hq => by simp [hq]))
        · exact po.elim
      · exact po.elim
    · exact po.elim
end
end Wap
set_option Elab.async false
set_option linter.all false
set_option maxRecDepth 100000
set_option maxHeartbeats 1000000
/-! W8: what is walked; comprehensions; all expressions. -/
namespace Wap
open PySem L2
/-- the iterator J gives what the trees tell -/
def WalkOk (K : PySem.W.Frag) (cl : Nat → Addr) (T : List (Addr × Str)) (F0 : Hp) (σ0 : L2.St) (it : ItD) (J : It) : Prop :=
  ∀ (k : Nat) (F H : Hp) (σ : L2.St) (env : List D) (S : List Addr), Rel K cl T F H σ env S → Wap.Ex F0 F → (∀ i ∈ itFx it [], σ[i]? = σ0[i]?) →
    (itm it k env = some none → J.stop k H) ∧ (∀ x, itm it k env = some (some x) → J.go k H ∧ ∀ v H', J.yld k H v H' → H' = H ∧ (fz x = true → Reps K cl F [v] [x]))
def PostI (K : PySem.W.Frag) (W : Wd) (T : List (Addr × Str)) (F H : Hp) (σ : L2.St) (S : List Addr) (R : It → Hp → Prop) (E : XK) : Out ItD → Prop
  | .ok it env => ∀ J H' F' S', Rel K W.cl T F' H' σ env S' → Stp F H S F' H' S' → WalkOk K W.cl T F' σ it J → R J H'
  | .exc w env => PostX K W T F H σ S E w env
  | .bad => False
def SI (K : PySem.W.Frag) (W : Wd) (T : List (Addr × Str)) (G : Gam) (P : Nat → Sp) (k : ItK) (its : List Xp) : Prop := ∀ (E : XK) (fx : List Nat) (env : List D) (σ : L2.St) (H F : Hp) (S : List Addr) (R : It → Hp → Prop), Rel K W.cl T F H σ env S → PostI K W T F H σ S R E (evI G k its fx env) → rdI K k (rdA K P its E) (rdH K P its E) σ H R
def SC (K : PySem.W.Frag) (W : Wd) (T : List (Addr × Str)) (G : Gam) (P : Nat → Sp) (es : List Xp) : Prop := ∀ (E : XK) (fx : List Nat) (env : List D) (σ : L2.St) (H F : Hp) (S : List Addr) (Q : Bool → Hp → Prop), Rel K W.cl T F H σ env S → PostT K W T F H σ S Q E (evC G es fx env) → rdC K P es E σ H Q
section
variable {K : PySem.W.Frag} {W : Wd} {T : List (Addr × Str)} {G : Gam} {P : Nat → Sp} {F F0 F' F1 F2 H H' H1 H2 : Hp} {σ σ' : L2.St} {env env' : List D} {S S' S1 S2 S3 : List Addr} {v u : V} {d : D} {E : XK} {cl : Nat → Addr}
theorem walk_rng (lo : Int) (n : Nat) : WalkOk K cl T F0 σ (.rng lo n) (Itr lo n) := fun k F H σ' env S r ex hs => by
  refine ⟨fun e => ?_, fun x e => ?_⟩
  · simp only [itm] at e
    split at e
    · simp at e
    · show n ≤ k; omega
  · simp only [itm] at e
    split at e
    · rename_i hk
      cases e
      refine ⟨hk, fun v H' y => ?_⟩
      obtain ⟨rfl, rfl⟩ := y
      exact ⟨rfl, fun _ => .sc (.int _) .nil⟩
    · simp at e
theorem walk_str (s : List Nat) : WalkOk K cl T F0 σ (.fro (s.map fun c => .str [c])) (Its (sOf s)) := fun k F H σ' env S r ex hs => by
  refine ⟨fun e => ?_, fun x e => ?_⟩
  · simp only [itm, Option.some.injEq, List.getElem?_eq_none_iff, List.length_map] at e
    show (sOf s).cps.size ≤ k
    simpa [sOf] using e
  · simp only [itm, Option.some.injEq, List.getElem?_map, Option.map_eq_some_iff] at e
    obtain ⟨c, hc, rfl⟩ := e
    refine ⟨?_, fun v H' y => ?_⟩
    · show k < (sOf s).cps.size
      have := (List.getElem?_eq_some_iff.mp hc).1
      simpa [sOf] using this
    · obtain ⟨rfl, c', hc', rfl⟩ := y
      have : c' = c := by
        have e2 : (sOf s).cps[k]? = some c := by simpa [sOf] using hc
        rw [e2] at hc'
        exact (Option.some.inj hc').symm
      subst this
      exact ⟨rfl, fun _ => .sc (.str [c']) .nil⟩
/-- a node's things, walked as a list or a tuple -/
theorem walk_lst {p : Addr} {us : List V} {xs : List D} (h : F0 p = some (.lst us)) (rp : Reps K cl F0 us xs) : WalkOk K cl T F0 σ (.fro xs) (Itl K p) := fun k F H σ' env S r ex hs => by
  have sq : SqL K H p us := .inl (.inl (r.ex _ _ (ex _ _ h)))
  have hl := rp.length
  refine ⟨fun e => ?_, fun x e => ?_⟩
  · simp only [itm, Option.some.injEq, List.getElem?_eq_none_iff] at e
    exact ⟨us, sq, by omega⟩
  · simp only [itm, Option.some.injEq] at e
    obtain ⟨u, hu, ru⟩ := rp.get e
    refine ⟨⟨us, u, sq, hu⟩, fun v H' y => ?_⟩
    obtain ⟨rfl, y⟩ := y
    have := y us sq
    rw [hu] at this
    cases this
    exact ⟨rfl, fun _ => ru.mono ex⟩
theorem walk_tup {p : Addr} {us : List V} {xs : List D} (h : SqT K F0 p us) (rp : Reps K cl F0 us xs) : WalkOk K cl T F0 σ (.fro xs) (Itt K p) := fun k F H σ' env S r ex hs => by
  have sq : SqT K H p us := Wap.Ex.sqt r.ex (Wap.Ex.sqt ex h)
  have hl := rp.length
  refine ⟨fun e => ?_, fun x e => ?_⟩
  · simp only [itm, Option.some.injEq, List.getElem?_eq_none_iff] at e
    exact ⟨us, sq, by omega⟩
  · simp only [itm, Option.some.injEq] at e
    obtain ⟨u, hu, ru⟩ := rp.get e
    refine ⟨⟨us, u, sq, hu⟩, fun v H' y => ?_⟩
    obtain ⟨rfl, y⟩ := y
    have := y us sq
    rw [hu] at this
    cases this
    exact ⟨rfl, fun _ => ru.mono ex⟩
/-- a slot's list or tuple, as it stands at each turn -/
theorem walk_node {i k : Nat} {p : Addr} {kd : Kd} {o : Bool} {xs : List D} {J : It} (r : Rel K cl T F H σ env S) (hv : σ[i]? = some (some (.ref p))) (e : env[i]? = some (.nd kd o xs))
    (hJ : ∀ us : List V, Fis K cl H p kd us → ∀ k : Nat, (us.length ≤ k → J.stop k H) ∧ (∀ u, us[k]? = some u → J.go k H ∧ ∀ v H', J.yld k H v H' → H' = H ∧ v = u)) :
    (xs[k]? = none → J.stop k H) ∧ (∀ x, xs[k]? = some x → J.go k H ∧ ∀ v H', J.yld k H v H' → H' = H ∧ (fz x = true → Reps K cl F [v] [x])) := by
  obtain ⟨w, _, hw, ow⟩ := r.look e rfl
  rw [hv] at hw; cases hw
  obtain ⟨q, us, eq, f, l, g, _⟩ := ow.node_inv r.ex
  cases eq
  obtain ⟨j1, j2⟩ := hJ us f k
  refine ⟨fun z => j1 (by rw [List.getElem?_eq_none_iff] at z; omega), fun x hx => ?_⟩
  have hlt : k < us.length := by have := (List.getElem?_eq_some_iff.mp hx).1; omega
  obtain ⟨j3, j4⟩ := j2 us[k] (List.getElem?_eq_getElem hlt)
  refine ⟨j3, fun v H' y => ?_⟩
  obtain ⟨rfl, rfl⟩ := j4 v H' y
  refine ⟨rfl, fun hf => ?_⟩
  obtain ⟨u, hu, ru⟩ := g k x hx hf
  rw [List.getElem?_eq_getElem hlt] at hu
  cases hu
  exact ru
theorem itl_ok {p : Addr} : ∀ (H : Hp) (us : List V), SqL K H p us → ∀ k : Nat, (us.length ≤ k → (Itl K p).stop k H) ∧ (∀ u, us[k]? = some u → (Itl K p).go k H ∧ ∀ v H', (Itl K p).yld k H v H' → H' = H ∧ v = u) := fun H us sq k =>
  ⟨fun h => ⟨us, sq, h⟩, fun u hu => ⟨⟨us, u, sq, hu⟩, fun v H' y => ⟨y.1, by
    have := y.2 us sq
    rw [hu] at this
    exact (Option.some.inj this).symm⟩⟩⟩
theorem itt_ok {p : Addr} : ∀ (H : Hp) (us : List V), SqT K H p us → ∀ k : Nat, (us.length ≤ k → (Itt K p).stop k H) ∧ (∀ u, us[k]? = some u → (Itt K p).go k H ∧ ∀ v H', (Itt K p).yld k H v H' → H' = H ∧ v = u) := fun H us sq k =>
  ⟨fun h => ⟨us, sq, h⟩, fun u hu => ⟨⟨us, u, sq, hu⟩, fun v H' y => ⟨y.1, by
    have := y.2 us sq
    rw [hu] at this
    exact (Option.some.inj this).symm⟩⟩⟩
theorem walk_slot {i : Nat} {p : Addr} (hv : σ[i]? = some (some (.ref p))) : WalkOk K cl T F0 σ (.slot i) (Itl K p) := fun k F H σ' env S r ex hs => by
  have hv' : σ'[i]? = some (some (.ref p)) := by rw [hs i (by simp [itFx])]; exact hv
  refine ⟨fun e => ?_, fun x e => ?_⟩
  all_goals
    simp only [itm] at e
    split at e
    · rename_i ee
      first
        | exact (walk_node r hv' ee fun us f => itl_ok H us (.inl (.inl f))).1 (by simpa using e)
        | exact (walk_node r hv' ee fun us f => itl_ok H us (.inl (.inl f))).2 x (by simpa using e)
    · rename_i ee
      first
        | exact (walk_node r hv' ee fun us f => itl_ok H us f).1 (by simpa using e)
        | exact (walk_node r hv' ee fun us f => itl_ok H us f).2 x (by simpa using e)
    · simp at e
theorem walk_slotT {i : Nat} {p : Addr} (hv : σ[i]? = some (some (.ref p))) : WalkOk K cl T F0 σ (.slotT i) (Itt K p) := fun k F H σ' env S r ex hs => by
  have hv' : σ'[i]? = some (some (.ref p)) := by rw [hs i (by simp [itFx])]; exact hv
  refine ⟨fun e => ?_, fun x e => ?_⟩
  all_goals
    simp only [itm] at e
    split at e
    · rename_i ee
      first
        | exact (walk_node r hv' ee fun us f => itt_ok H us f).1 (by simpa using e)
        | exact (walk_node r hv' ee fun us f => itt_ok H us f).2 x (by simpa using e)
    · simp at e
theorem small_of {i : Int} (h : small i = true) : -(2 ^ 62) ≤ i ∧ i < 2 ^ 62 := by
  unfold small at h
  simpa using h
theorem si_rng1 {e : Xp} (he : SE K W T G P e) : SI K W T G P .rng1 [e] := fun E fx env σ H F S R r p => by
  simp only [evI] at p
  show (rdX K P e E).1 σ H fun x H1 => ∃ j : Int, [x] = [V.int j] ∧ -(2 ^ 62) ≤ j ∧ j < 2 ^ 62 ∧ R (Itr 0 j.toNat) H1
  refine bindE he r (fun w env' _ z => z) (fun z => z) p fun d env1 v H1 F1 S1 he0 p r1 st => ?_
  obtain ⟨Sa, Sb, rfl, o1, r2⟩ := r1.drop1
  split at p
  · cases o1.int_inv
    split at p
    · rename_i hs
      obtain ⟨h1, h2⟩ := small_of hs
      exact ⟨_, rfl, h1, h2, p _ _ _ _ r2 (st.less fun q hq => by simp [hq]) (walk_rng _ _)⟩
    · exact p.elim
  · exact p.elim
theorem si_rng2 {a b : Xp} (ha : SE K W T G P a) (hb : SE K W T G P b) : SI K W T G P .rng2 [a, b] := fun E fx env σ H F S R r p => by
  simp only [evI] at p
  show (rdX K P a E).1 σ H fun x H1 => (rdX K P b E).1 σ H1 fun y H2 => ∃ i j : Int, [x, y] = [V.int i, V.int j] ∧ (-(2 ^ 62) ≤ i ∧ i < 2 ^ 62 ∧ -(2 ^ 62) ≤ j ∧ j < 2 ^ 62) ∧ R (Itr i (j - i).toNat) H2
  refine bindE ha r (fun w env' _ z => z) (fun z => z) p fun d env1 v H1 F1 S1 he0 p r1 st => ?_
  have d1 := r1
  obtain ⟨Sa, Sb, rfl, o1, r2⟩ := r1.drop1
  refine bindE (Post := PostI K W T F H σ S R E) hb r2 (fun w env' _ z => PostX.from st (fun q hq => by simp [hq]) z) (fun z => z) p fun d2 env2 v2 H2 F2 S2 he2 p r3 st2 => ?_
  obtain ⟨Sc, Sd, rfl, o2, r4⟩ := r3.drop1
  have o1' := st2.other o1 d1.disj
  split at p
  · cases o1'.int_inv
    cases o2.int_inv
    split at p
    · rename_i hs
      rw [Bool.and_eq_true] at hs
      obtain ⟨h1, h2⟩ := small_of hs.1
      obtain ⟨h3, h4⟩ := small_of hs.2
      exact ⟨_, _, rfl, ⟨h1, h2, h3, h4⟩, p _ _ _ _ r4 ((st.trans (st2.wide fun q hq => by simp [hq])).less fun q hq => by simp [hq]) (walk_rng _ _)⟩
    · exact p.elim
  · exact p.elim
theorem si_slot {i : Nat} : SI K W T G P .seq [.v i] := fun E fx env σ H F S R r p => by
  simp only [evI] at p
  show (iList K (tVar i) σ H R ∨ iTup K (tVar i) σ H R) ∨ iStr (tVar i) σ H R
  split at p
  · rename_i d e
    unfold seqSlot at p
    split at p
    · rename_i it ei
      split at ei
      · obtain ⟨v, _, hv, ow⟩ := r.look e rfl
        cases ow.str_inv
        cases ei
        exact .inr ⟨_, hv, _, rfl, p _ _ _ _ r Stp.refl (walk_str _)⟩
      · obtain ⟨v, _, hv, ow⟩ := r.look e rfl
        obtain ⟨q, us, rfl, f, _⟩ := ow.lst_inv r.ex
        cases ei
        exact .inl (.inl ⟨_, hv, q, rfl, ⟨us, .inl (.inl f)⟩, p _ _ _ _ r Stp.refl (walk_slot hv)⟩)
      · obtain ⟨v, _, hv, ow⟩ := r.look e rfl
        obtain ⟨q, us, rfl, f, _⟩ := ow.scr_inv r.ex
        cases ei
        exact .inl (.inl ⟨_, hv, q, rfl, ⟨us, f⟩, p _ _ _ _ r Stp.refl (walk_slot hv)⟩)
      · obtain ⟨v, _, hv, ow⟩ := r.look e rfl
        obtain ⟨q, us, rfl, f, _⟩ := ow.tup_inv r.ex
        cases ei
        exact .inl (.inr ⟨_, hv, q, rfl, ⟨us, f⟩, p _ _ _ _ r Stp.refl (walk_slotT hv)⟩)
      · cases ei
    · exact p.elim
  · exact p.elim
theorem si_seq {e : Xp} (hn : ∀ i, e ≠ .v i) (he : SE K W T G P e) : SI K W T G P .seq [e] := fun E fx env σ H F S R r p => by
  have eq : evI G .seq [e] fx env = (ev G e fx env).bind fun d env1 => match seqOf d with
    | some it => .ok it env1
    | none => .bad := by cases e <;> first | rfl | exact (hn _ rfl).elim
  rw [eq] at p
  show (iList K (rdX K P e E).1 σ H R ∨ iTup K (rdX K P e E).1 σ H R) ∨ iStr (rdX K P e E).1 σ H R
  -- which kind it is is known ahead
  cases ho : ev G e fx env with
  | bad => rw [ho] at p; exact p.elim
  | exc w env1 =>
    rw [ho] at p
    refine .inr (he E fx env σ H F S _ r ?_)
    rw [ho]; exact p
  | ok d env1 =>
    rw [ho] at p
    have p : PostI K W T F H σ S R E (match seqOf d with | some it => .ok it env1 | none => .bad) := p
    unfold seqOf at p
    split at p
    · rename_i it ei
      split at ei
      · cases ei
        refine .inr (he E fx env σ H F S _ r ?_)
        rw [ho]
        intro v H1 F1 S1 r1 st
        obtain ⟨Sa, Sb, rfl, o1, r2⟩ := r1.drop1
        cases o1.str_inv
        exact ⟨_, rfl, p _ _ _ _ r2 (st.less fun q hq => by simp [hq]) (walk_str _)⟩
      · split at ei
        · rename_i hz
          cases ei
          refine .inl (.inl (he E fx env σ H F S _ r ?_))
          rw [ho]
          intro v H1 F1 S1 r1 st
          obtain ⟨F2, S2, r2, rp2, st2⟩ := r1.freeze
          obtain ⟨Sa, Sb, rfl, o1, _⟩ := r1.drop1
          obtain ⟨q, us, rfl, f, _, g⟩ := o1.lst_inv r1.ex
          have f2 : F2 q = some (.lst us) := by
            cases rp2 with
            | sc s _ => cases s
            | nd f1 _ _ =>
              have f1 : F2 q = some (.lst _) := f1
              have := r2.ex _ _ f1
              rw [f] at this
              cases this
              exact f1
          obtain ⟨Sc, Sd, rfl, _, r3⟩ := r2.drop1
          exact ⟨q, rfl, ⟨us, .inl (.inl f)⟩, p _ _ _ _ r3 ((st.trans st2).less fun q hq => by simp [hq]) (walk_lst f2 ((g hz).mono st2.exF))⟩
        · cases ei
      · split at ei
        · rename_i hz
          cases ei
          refine .inl (.inr (he E fx env σ H F S _ r ?_))
          rw [ho]
          intro v H1 F1 S1 r1 st
          obtain ⟨Sa, Sb, rfl, o1, r2⟩ := r1.drop1
          obtain ⟨rp, _⟩ := o1.to_reps (by simp [fz])
          cases rp with
          | sc s _ => cases s
          | @nd q _ _ us _ _ _ f1 f3 _ =>
            have f1 : SqT K F1 q us := f1
            exact ⟨q, rfl, ⟨us, Wap.Ex.sqt r1.ex f1⟩, p _ _ _ _ r2 (st.less fun q hq => by simp [hq]) (walk_tup f1 f3)⟩
        · cases ei
      · cases ei
    · exact p.elim
theorem sc_nil : SC K W T G P [] := fun E fx env σ H F S Q r p => by
  simp only [evC] at p
  exact p H F S r Stp.refl
theorem sc_one {e : Xp} (he : ST K W T G P e) : SC K W T G P [e] := fun E fx env σ H F S Q r p => by
  simp only [evC] at p
  exact he E fx env σ H F S Q r p
/-! ### targets -/
def tgS : Tg → List Nat
  | .one j => [j] | .tup js => js
theorem Rel.put1 {j : Nat} (r : Rel K cl T F H σ env S) (rp : Reps K cl F [v] [d]) (hf : fz d = true) (hj : j < env.length) : ∃ S', Rel K cl T F H (σ.set j (some v)) (env.set j d) S' ∧ ∀ p ∈ S', p ∈ S := by
  have ow := Owns.of_reps (H := H) rp (by simpa using hf)
  have r1 := Rel.frame ow (by simpa using r.nd) (by simp) Stp.refl r
  obtain ⟨S', r2, hs⟩ := Rel.store (i := j) (by simpa using r1) hj
  exact ⟨S', r2, hs⟩
theorem puts : ∀ (js : List Nat) (vs : List V) (ds : List D) (σ : L2.St) (env : List D) (S : List Addr) (Q : L2.St → Hp → Prop), vs.length = ds.length → ds.length = js.length → Reps K cl F vs ds → (∀ d ∈ ds, fz d = true) → (∀ j ∈ js, j < env.length) → Rel K cl T F H σ env S →
    (∀ σ' S', Rel K cl T F H σ' ((js.zip ds).foldl (fun e p => e.set p.1 p.2) env) S' → (∀ p ∈ S', p ∈ S) → (∀ i, i ∉ js → σ'[i]? = σ[i]?) → σ'.length = σ.length → Q σ' H) → gNames js vs σ H Q
  | [], vs, ds, σ, env, S, Q, h1, h2, _, _, _, r, k => by
    have : ds = [] := List.eq_nil_of_length_eq_zero (by simpa using h2)
    subst this
    have : vs = [] := List.eq_nil_of_length_eq_zero (by simpa using h1)
    subst this
    exact ⟨rfl, k σ S r (fun p hp => hp) (fun _ _ => rfl) rfl⟩
  | j :: js, [], [], _, _, _, _, _, h, _, _, _, _, _ => by simp at h
  | j :: js, _ :: _, [], _, _, _, _, h, _, _, _, _, _, _ => by simp at h
  | j :: js, [], _ :: _, _, _, _, _, h, _, _, _, _, _, _ => by simp at h
  | j :: js, v :: vs, d :: ds, σ, env, S, Q, h1, h2, rp, hf, hj, r, k => by
    obtain ⟨rp1, rp2⟩ := rp.cons_inv
    obtain ⟨S1, r1, hs1⟩ := r.put1 rp1 (hf d (by simp)) (hj j (by simp))
    refine ⟨v, vs, rfl, ?_⟩
    refine puts js vs ds _ _ S1 Q (by simpa using h1) (by simpa using h2) rp2 (fun d hd => hf d (by simp [hd])) (fun i hi => by rw [List.length_set]; exact hj i (by simp [hi])) r1 fun σ' S' r' hs' hk hL => ?_
    refine k σ' S' r' (fun p hp => hs1 p (hs' p hp)) (fun i hi => ?_) (by rw [hL, List.length_set])
    simp only [List.mem_cons, not_or] at hi
    rw [hk i hi.2, List.getElem?_set_ne (fun z => hi.1 z.symm)]
theorem bindT_sound {fx : List Nat} {tg : Tg} {x : D} {env1 : List D} {Q : L2.St → Hp → Prop} (r : Rel K cl T F H σ env S) (rp : fz x = true → Reps K cl F [v] [x]) (e : bindT fx tg x env = some env1)
    (k : ∀ σ' S', Rel K cl T F H σ' env1 S' → (∀ p ∈ S', p ∈ S) → (∀ i, i ∉ tgS tg → σ'[i]? = σ[i]?) → (∀ i ∈ tgS tg, i ∉ fx) → σ'.length = σ.length → Q σ' H) : rdG K tg v σ H Q := by
  unfold bindT at e
  split at e
  · split at e
    · cases e
    · rename_i hc
      cases e
      simp only [Bool.or_eq_true, Bool.not_eq_true', decide_eq_false_iff_not, not_or, Bool.not_eq_true, Decidable.not_not, Bool.not_eq_false] at hc
      obtain ⟨⟨h1, h2⟩, h3⟩ := hc
      obtain ⟨S1, r1, hs1⟩ := r.put1 (rp h2) h2 h3
      refine k _ S1 r1 hs1 (fun i hi => ?_) (fun i hi => ?_) (by rw [List.length_set])
      · rw [List.getElem?_set_ne (fun z => hi (by simp [tgS, z]))]
      · simp only [tgS, List.mem_singleton] at hi
        subst hi
        simpa using h1
  · split at e
    · rename_i hc
      cases e
      obtain ⟨h1, h2, h3⟩ := hc
      simp only [List.all_eq_true, Bool.and_eq_true, Bool.not_eq_true', decide_eq_true_eq] at h2 h3
      have rp := rp rfl
      cases rp with
      | sc s _ => cases s
      | @nd q _ _ us _ _ _ f1 f3 _ =>
        have hl := f3.length
        refine .inl ⟨q, us, rfl, Wap.Ex.sqt r.ex f1, by omega, ?_⟩
        refine puts _ us _ σ env S Q hl h1 f3 h2 (fun j hj => (h3 j hj).2) r fun σ' S' r' hs' hk hL => k σ' S' r' hs' hk (fun i hi => ?_) hL
        have := (h3 i hi).1
        simpa using this
    · cases e
  · cases e
/-! ### slots forgotten -/
theorem Rel.kills (js : List Nat) : ∀ {env : List D} {S : List Addr}, Rel K cl T F H σ env S → ∃ S', Rel K cl T F H σ (kills js env) S' ∧ ∀ p ∈ S', p ∈ S := by
  induction js with
  | nil => exact fun r => ⟨_, r, fun p hp => hp⟩
  | cons j js ih =>
    intro env S r
    obtain ⟨S1, r1, h1⟩ := r.kill (i := j)
    obtain ⟨S2, r2, h2⟩ := ih r1
    exact ⟨S2, r2, fun p hp => h1 p (h2 p hp)⟩
theorem kills_get (js : List Nat) : ∀ (env : List D) (i : Nat), (kills js env)[i]? = if i ∈ js then (env[i]?).map fun _ => .hole else env[i]? := by
  induction js with
  | nil => intro env i; simp [kills]
  | cons j js ih =>
    intro env i
    show (kills js (env.set j .hole))[i]? = _
    rw [ih]
    by_cases h1 : i ∈ js
    · rw [if_pos h1, if_pos (by simp [h1])]
      rw [List.getElem?_set]
      split
      · rename_i e; subst e
        split
        · rename_i hl; rw [List.getElem?_eq_getElem hl] <;> rfl
        · rename_i hl; rw [List.getElem?_eq_none (by omega)] <;> rfl
      · rfl
    · rw [if_neg h1]
      by_cases h2 : i = j
      · subst h2
        rw [if_pos (by simp), List.getElem?_set]
        simp only [if_true]
        split
        · rename_i hl; rw [List.getElem?_eq_getElem hl] <;> rfl
        · rename_i hl; rw [List.getElem?_eq_none (by omega)] <;> rfl
      · rw [if_neg (by simp [h1, h2]), List.getElem?_set_ne (fun z => h2 z.symm)]
theorem kills_len (js : List Nat) (env : List D) : (kills js env).length = env.length := by
  induction js generalizing env with
  | nil => rfl
  | cons j js ih =>
    show (kills js (env.set j .hole)).length = _
    rw [ih, List.length_set]
/-- where a slot is forgotten its value does not matter -/
theorem Owns.swap {vs us : List V} {ds : List D} (hl : us.length = vs.length) (h : Owns K cl F H vs ds S) (hd : ∀ (i : Nat) (d : D), ds[i]? = some d → d ≠ D.hole → us[i]? = vs[i]?) : Owns K cl F H us ds S := by
  induction ds generalizing vs us S with
  | nil =>
    have := h.length
    have : vs = [] := List.eq_nil_of_length_eq_zero (by simpa using this)
    subst this
    have : us = [] := List.eq_nil_of_length_eq_zero (by simpa using hl)
    subst this
    exact h
  | cons d ds ih =>
    cases vs with
    | nil => have := h.length; simp at this
    | cons v vs =>
      cases us with
      | nil => simp at hl
      | cons u us =>
        obtain ⟨S1, S2, rfl, h1, h2⟩ := h.cons_inv
        have h3 := ih (us := us) (by simpa using hl) h2 fun i d' e hd' => by simpa using hd (i + 1) d' (by simpa using e) hd'
        by_cases hh : d = .hole
        · subst hh
          have : S1 = [] := by cases h1 with | hole h => cases h; rfl | sc s _ => cases s
          subst this
          exact .hole h3
        · have := hd 0 d rfl hh
          simp at this
          subst this
          exact h1.cons h3
theorem Rel.swap (r : Rel K cl T F H σ env S) (hl : σ'.length = σ.length) (hd : ∀ (i : Nat) (d : D), env[i]? = some d → d ≠ D.hole → σ'[i]? = σ[i]?) : Rel K cl T F H σ' env S := by
  refine ⟨r.own.swap (by rw [vals_length, vals_length, hl]) fun i d e hh => ?_, fun i d e hh => ?_, r.nd, r.dF, r.ex, r.nt, r.tab⟩
  · unfold vals
    rw [List.getElem?_map, List.getElem?_map, hd i d e hh]
  · obtain ⟨v, hv⟩ := r.set i d e hh
    exact ⟨v, by rw [hd i d e hh]; exact hv⟩
theorem wipe_get (vs : List Nat) (σ : L2.St) (i : Nat) (hi : i ∉ vs) : (wipe σ vs)[i]? = σ[i]? := by
  induction vs with
  | nil => rfl
  | cons j js ih =>
    simp only [List.mem_cons, not_or] at hi
    show ((wipe σ js).set j none)[i]? = _
    rw [List.getElem?_set_ne (fun z => hi.1 z.symm), ih hi.2]
theorem wipe_in (vs : List Nat) (σ : L2.St) (i : Nat) (hi : i ∈ vs) (hl : i < σ.length) : (wipe σ vs)[i]? = some none := by
  induction vs with
  | nil => cases hi
  | cons j js ih =>
    show ((wipe σ js).set j none)[i]? = _
    rw [List.getElem?_set]
    split
    · rename_i e
      subst e
      rw [if_pos (by rw [wipe_length]; exact hl)]
    · rename_i e
      rcases List.mem_cons.mp hi with z | z
      · exact (e z.symm).elim
      · exact ih z
theorem wipe_eq {vs : List Nat} {σ σ' : L2.St} (hl : σ'.length = σ.length) (h : ∀ i, i ∉ vs → σ'[i]? = σ[i]?) : wipe σ' vs = wipe σ vs := by
  apply List.ext_getElem?
  intro i
  by_cases hi : i ∈ vs
  · by_cases hlt : i < σ.length
    · rw [wipe_in vs σ i hi hlt, wipe_in vs σ' i hi (by omega)]
    · rw [List.getElem?_eq_none (by rw [wipe_length]; omega), List.getElem?_eq_none (by rw [wipe_length]; omega)]
  · rw [wipe_get vs σ' i hi, wipe_get vs σ i hi, h i hi]
end
end Wap
set_option Elab.async false
set_option linter.all false
set_option maxRecDepth 100000
set_option maxHeartbeats 1000000
/-! W9: comprehensions; all expressions are sound. -/
namespace Wap
open PySem L2
section
variable {K : PySem.W.Frag} {W : Wd} {T : List (Addr × Str)} {G : Gam} {P : Nat → Sp} {F F0 F' F1 F2 H H' H1 H2 : Hp} {σ σ' : L2.St} {env env' : List D} {S S' S1 S2 S3 : List Addr} {v u : V} {d : D} {E : XK} {cl : Nat → Addr}
theorem set_self {α : Type} {l : List α} {i : Nat} {a : α} (h : l[i]? = some a) : l.set i a = l := by
  obtain ⟨hi, e⟩ := List.getElem?_eq_some_iff.mp h
  rw [← e, List.set_getElem_self]
/-- slots get back what they held -/
theorem Rel.restore (old : List D) : ∀ (vs : List Nat) {e : List D} {S : List Addr}, (∀ j ∈ vs, ∃ d, old[j]? = some d ∧ (d = .hole ∨ (fz d = true ∧ ∃ v, σ[j]? = some (some v) ∧ Reps K cl F [v] [d]))) → Rel K cl T F H σ e S → ∃ S', Rel K cl T F H σ (Wap.restore vs old e) S' ∧ ∀ p ∈ S', p ∈ S
  | [], e, S, _, r => ⟨S, r, fun p hp => hp⟩
  | j :: js, e, S, h, r => by
    obtain ⟨d, hd, hc⟩ := h j (by simp)
    have step : ∃ S1, Rel K cl T F H σ (e.set j d) S1 ∧ ∀ p ∈ S1, p ∈ S := by
      rcases hc with rfl | ⟨hf, v, hv, rp⟩
      · exact r.kill
      · have hl := r.len
        have hj : j < e.length := by have := (List.getElem?_eq_some_iff.mp hv).1; omega
        obtain ⟨S1, r1, h1⟩ := r.put1 rp hf hj
        rw [set_self hv] at r1
        exact ⟨S1, r1, h1⟩
    obtain ⟨S1, r1, h1⟩ := step
    obtain ⟨S2, r2, h2⟩ := Rel.restore old js (fun i hi => h i (by simp [hi])) r1
    refine ⟨S2, ?_, fun p hp => h1 p (h2 p hp)⟩
    have : Wap.restore (j :: js) old e = Wap.restore js old (e.set j d) := by
      show Wap.restore js old (match old[j]? with | some d => e.set j d | none => e) = _
      rw [hd]
    rw [this]
    exact r2
theorem se_comp {tg : Tg} {k : ItK} {its cond : List Xp} {elt : Xp} {vs : List Nat} (hi : SI K W T G P k its) (hc : SC K W T G P cond) (he : SE K W T G P elt) : SE K W T G P (.comp tg k its cond elt vs) := fun E fx env σ H F S Q r p => by
  simp only [ev] at p
  split at p
  rotate_left
  · exact p.elim
  rename_i hvs
  simp only [Bool.and_eq_true, List.all_eq_true, Bool.not_eq_true'] at hvs
  obtain ⟨htg, hvs⟩ := hvs
  have tgsub : ∀ i ∈ tgS tg, i ∈ vs := fun i hi => by
    cases tg with
    | one j => simp only [tgS, List.mem_singleton] at hi; subst hi; simpa [tgIn] using htg
    | tup js => simp only [tgIn, List.all_eq_true] at htg; simpa using htg i hi
  show rdI K k (rdA K P its E) (rdH K P its E) σ H _
  refine hi E fx env σ H F S _ r ?_
  cases hI : evI G k its fx env with
  | bad => rw [hI] at p; exact p.elim
  | exc w env1 => rw [hI] at p; exact p
  | ok it env0 =>
    rw [hI] at p
    -- the turns, by a name
    obtain ⟨turnf, hturn⟩ : ∃ f, f = turnC vs (fun x e => bindT (itFx it fx) tg x (kills vs e)) (fun e => evC G cond (itFx it fx) e) (fun e => ev G elt (itFx it fx) e) := ⟨_, rfl⟩
    have p : PostE K W T F H σ S Q E ((compL (itm it) turnf fuel 0 [] (kills vs env0)).bind fun acc env1 => .ok (.nd .lst true acc) (restore vs env env1)) := by rw [hturn]; exact p
    intro J H1 F1 S1 r1 st1 wk Dl hD
    -- what the own names held ahead stands shared
    have held : ∀ F2, Wap.Ex F1 F2 → ∀ j ∈ vs, ∃ d, env[j]? = some d ∧ (d = .hole ∨ (fz d = true ∧ ∃ v, σ[j]? = some (some v) ∧ Reps K W.cl F2 [v] [d])) := fun F2 ex j hj => by
      have q := (hvs j hj).1
      split at q
      · rename_i d e
        refine ⟨d, e, ?_⟩
        rw [Bool.or_eq_true] at q
        rcases q with q | q
        · left; cases d <;> simp [isHole] at q; rfl
        · obtain ⟨v, hv, r'⟩ := r.read e q
          obtain ⟨_, _, _, o1, _⟩ := r'.drop1
          exact .inr ⟨q, v, hv, (o1.to_reps (by simpa using q)).1.mono (st1.exF.trans ex)⟩
      · cases q
    have hlen : ∀ {F2 H2 : Hp} {e : List D} {S2 : List Addr}, Rel K W.cl T F2 H2 σ e S2 → e.length = σ.length := fun r => r.len.symm
    let Wm : Nat → Nat → Hp → Prop := fun i m H2 => ∃ acc e F2 S2, Rel K W.cl T F2 H2 (some (.ref Dl) :: σ) (.nd .lst true acc :: e) S2 ∧ (∀ j ∈ vs, ∀ d, e[j]? = some d → d = .hole) ∧ Stp F1 H1 S1 F2 H2 S2 ∧
      PostE K W T F H σ S Q E ((compL (itm it) turnf m i acc e).bind fun acc env1 => .ok (.nd .lst true acc) (restore vs env env1))
    refine ⟨Wm, ⟨fuel, ?_⟩, ?_⟩
    · obtain ⟨S1', r1', hs1⟩ := r1.kills vs
      obtain ⟨r2, st2⟩ := Rel.alloc (vs := []) (ds := []) (k := .lst) rfl (by simpa using r1') hD rfl
      refine ⟨[], kills vs env0, F1, _, r2, fun j hj d e => ?_, ?_, p⟩
      · rw [kills_get, if_pos hj, Option.map_eq_some_iff] at e
        obtain ⟨_, _, rfl⟩ := e
        rfl
      · exact ((Stp.refl (F := F1) (H := H1) (S := S1)).less hs1).trans st2
    · rintro i m H2 ⟨acc, e, F2, S2, r2, hole, st2, p⟩
      have dj2 := r2
      obtain ⟨Sa, Sb, rfl, oa, rb⟩ := r2.drop1
      have ex2 : Wap.Ex F1 F2 := st2.exF
      obtain ⟨wstop, wgo⟩ := wk i F2 H2 σ e Sb rb ex2 fun _ _ => rfl
      cases m with
      | zero => exact p.elim
      | succ f =>
        simp only [compL] at p
        cases hit : itm it i e with
        | none => rw [hit] at p; exact p.elim
        | some ox =>
          rw [hit] at p
          cases ox with
          | none =>
            left
            have p : PostE K W T F H σ S Q E (.ok (.nd .lst true acc) (restore vs env e)) := p
            refine ⟨wstop hit, ?_⟩
            obtain ⟨S3, r3, hs3⟩ := Rel.restore env vs (held F2 ex2) rb
            have r4 := Rel.frame oa (S := S3) (by
              have nd := dj2.nd
              have := r3.nd
              simp only [List.nodup_append] at nd ⊢
              grind) (fun q hq => dj2.dF q (by simp [hq])) Stp.refl r3
            refine p _ _ F2 _ (by simpa using r4) ((st1.trans st2).less fun q hq => ?_)
            simp only [List.mem_append] at hq ⊢
            exact hq.imp id (hs3 q)
          | some x =>
            right
            obtain ⟨wg, wy⟩ := wgo x hit
            have p : PostE K W T F H σ S Q E ((match turnf x e with
              | .ok (some d) env' => if acc.length < lim then compL (itm it) turnf f (i + 1) (acc ++ [d]) env' else .bad
              | .ok none env' => compL (itm it) turnf f (i + 1) acc env'
              | _ => .bad).bind fun acc env1 => .ok (.nd .lst true acc) (restore vs env env1)) := p
            refine ⟨wg, Wm (i + 1) f, fun H3 w => ⟨f, Nat.lt_succ_self f, w⟩, fun v H2' y => ?_⟩
            obtain ⟨rfl, rx⟩ := wy v H2' y
            -- the target
            obtain ⟨Sk, rk, hsk⟩ := rb.kills vs
            have rw_ : Rel K W.cl T F2 H2' (wipe σ vs) (kills vs e) Sk := rk.swap (wipe_length σ vs) fun j d ed hd => by
              by_cases hj : j ∈ vs
              · rw [kills_get, if_pos hj, Option.map_eq_some_iff] at ed
                obtain ⟨_, _, rfl⟩ := ed
                exact (hd rfl).elim
              · exact wipe_get vs σ j hj
            have ht : turnf x e = (match bindT (itFx it fx) tg x (kills vs e) with
              | some e1 => (evC G cond (itFx it fx) e1).bind fun d e2 => match d with
                | .bl true => (ev G elt (itFx it fx) e2).bind fun y e3 => if isHole y then Out.bad else .ok (some y) (kills vs e3)
                | .bl false => .ok none (kills vs e2)
                | _ => .bad
              | none => .bad) := by rw [hturn]; rfl
            rw [ht] at p
            cases hb : bindT (itFx it fx) tg x (kills vs e) with
            | none => rw [hb] at p; exact p.elim
            | some e1 =>
              rw [hb] at p
              have p : PostE K W T F H σ S Q E ((match ((evC G cond (itFx it fx) e1).bind fun d e2 => match d with
                | .bl true => (ev G elt (itFx it fx) e2).bind fun y e3 => if isHole y then Out.bad else .ok (some y) (kills vs e3)
                | .bl false => .ok none (kills vs e2)
                | _ => .bad) with
                | .ok (some d) env' => if acc.length < lim then compL (itm it) turnf f (i + 1) (acc ++ [d]) env' else .bad
                | .ok none env' => compL (itm it) turnf f (i + 1) acc env'
                | _ => .bad).bind fun acc env1 => .ok (.nd .lst true acc) (restore vs env env1)) := p
              refine bindT_sound rw_ rx hb fun σ2 Sc rc hsc hk2 _ hL2 => ?_
              have out2 : ∀ j, j ∉ vs → σ2[j]? = σ[j]? := fun j hj => by
                rw [hk2 j (fun z => hj (tgsub j z)), wipe_get vs σ j hj]
              have hL : σ2.length = σ.length := by rw [hL2, wipe_length]
              refine ⟨wipe_eq hL out2, ?_⟩
              -- back from the block: the own names are forgotten
              have back : ∀ {F3 H3 : Hp} {e3 : List D} {Sx : List Addr} {acc' : List D} {Sl : List Addr}, Rel K W.cl T F3 H3 σ2 e3 Sx → Owns K W.cl F3 H3 [.ref Dl] [.nd .lst true acc'] Sl → (Sl ++ Sx).Nodup → (∀ q ∈ Sl, F3 q = none) →
                  ∃ S', Rel K W.cl T F3 H3 (some (.ref Dl) :: σ) (.nd .lst true acc' :: kills vs e3) S' ∧ (∀ q ∈ S', q ∈ Sl ++ Sx) ∧ ∀ j ∈ vs, ∀ d, (kills vs e3)[j]? = some d → d = .hole := by
                intro F3 H3 e3 Sx acc' Sl r3 ol nd hF
                obtain ⟨S4, r4, hs4⟩ := r3.kills vs
                have r5 := r4.swap (σ' := σ) hL.symm fun j d ed hd => by
                  by_cases hj : j ∈ vs
                  · rw [kills_get, if_pos hj, Option.map_eq_some_iff] at ed
                    obtain ⟨_, _, rfl⟩ := ed
                    exact (hd rfl).elim
                  · exact (out2 j hj).symm
                have r6 := Rel.frame ol (S := S4) (by
                  have := r5.nd
                  simp only [List.nodup_append] at nd ⊢
                  grind) hF Stp.refl r5
                refine ⟨_, by simpa using r6, fun q hq => ?_, fun j hj d ed => ?_⟩
                · simp only [List.mem_append] at hq ⊢
                  exact hq.imp id (hs4 q)
                · rw [kills_get, if_pos hj, Option.map_eq_some_iff] at ed
                  obtain ⟨_, _, rfl⟩ := ed
                  rfl
              have nd2 := dj2.nd
              have sc_ : ∀ q ∈ Sc, q ∈ Sb := fun q hq => hsk q (hsc q hq)
              have hlen1 := rc.len
              cases hcnd : evC G cond (itFx it fx) e1 with
              | bad => rw [hcnd] at p; exact p.elim
              | exc w ex => rw [hcnd] at p; exact p.elim
              | ok dc e2 =>
                rw [hcnd] at p
                refine hc E0 (itFx it fx) e1 σ2 H2' F2 Sc _ rc ?_
                rw [hcnd]
                cases dc with
                | bl b =>
                  intro H3 F3 S3 r3 st3
                  have oa3 : Owns K W.cl F3 H3 [.ref Dl] [.nd .lst true acc] Sa := st3.other oa fun q hq z => dj2.disj q hq (sc_ q z)
                  have sep3 : ∀ q ∈ Sa, q ∉ S3 := fun q hq z => by
                    rcases st3.newS q z with y | y
                    · exact dj2.disj q hq (sc_ q y)
                    · obtain ⟨_, _, o, eo, _⟩ := oa.there q hq
                      rw [eo] at y; cases y
                  have nF3 : ∀ q ∈ Sa, F3 q = none := fun q hq => by
                    cases eq : F3 q with
                    | none => rfl
                    | some o =>
                      rcases st3.newF q o eq (dj2.dF q (by simp [hq])) with y | y
                      · obtain ⟨_, _, o, eo, _⟩ := oa.there q hq
                        rw [eo] at y; cases y
                      · exact (dj2.disj q hq (sc_ q y)).elim
                  have stx : Stp F1 H1 S1 F3 H3 (Sa ++ S3) := st2.trans (((st3.wide sc_)).frame oa)
                  cases b with
                  | false =>
                    rw [if_neg (by decide)]
                    have p : PostE K W T F H σ S Q E ((compL (itm it) turnf f (i + 1) acc (kills vs e2)).bind fun acc env1 => .ok (.nd .lst true acc) (restore vs env env1)) := p
                    obtain ⟨S4, r4, hs4, hh4⟩ := back r3 oa3 (by
                      have := r3.nd
                      simp only [List.nodup_append] at nd2 ⊢
                      exact ⟨nd2.1, this, fun a ha b hb z => sep3 a ha (z ▸ hb)⟩) nF3
                    exact ⟨acc, _, F3, S4, r4, hh4, stx.less hs4, p⟩
                  | true =>
                    rw [if_pos rfl]
                    have p : PostE K W T F H σ S Q E ((match ((ev G elt (itFx it fx) e2).bind fun y e3 => if isHole y then Out.bad else .ok (some y) (kills vs e3)) with
                      | .ok (some d) env' => if acc.length < lim then compL (itm it) turnf f (i + 1) (acc ++ [d]) env' else .bad
                      | .ok none env' => compL (itm it) turnf f (i + 1) acc env'
                      | _ => .bad).bind fun acc env1 => .ok (.nd .lst true acc) (restore vs env env1)) := p
                    cases hel : ev G elt (itFx it fx) e2 with
                    | bad => rw [hel] at p; exact p.elim
                    | exc w ex => rw [hel] at p; exact p.elim
                    | ok y e3 =>
                      rw [hel] at p
                      refine he E0 (itFx it fx) e2 σ2 H3 F3 S3 _ r3 ?_
                      rw [hel]
                      intro vy H4 F4 S4 r4 st4
                      have p : PostE K W T F H σ S Q E ((match (if isHole y = true then Out.bad else .ok (some y) (kills vs e3)) with
                        | .ok (some d) env' => if acc.length < lim then compL (itm it) turnf f (i + 1) (acc ++ [d]) env' else .bad
                        | .ok none env' => compL (itm it) turnf f (i + 1) acc env'
                        | _ => .bad).bind fun acc env1 => .ok (.nd .lst true acc) (restore vs env env1)) := p
                      by_cases hy : isHole y = true
                      · rw [if_pos hy] at p; exact p.elim
                      · rw [if_neg hy] at p
                        have p : PostE K W T F H σ S Q E ((if acc.length < lim then compL (itm it) turnf f (i + 1) (acc ++ [y]) (kills vs e3) else .bad).bind fun acc env1 => .ok (.nd .lst true acc) (restore vs env env1)) := p
                        by_cases hz : acc.length < lim
                        · rw [if_pos hz] at p
                          have dj4 := r4
                          obtain ⟨Sy, Se, rfl, oy, re⟩ := r4.drop1
                          have oa4 : Owns K W.cl F4 H4 [.ref Dl] [.nd .lst true acc] Sa := st4.other oa3 sep3
                          have sep4 : ∀ q ∈ Sa, q ∉ Sy ++ Se := fun q hq z => by
                            rcases st4.newS q z with w | w
                            · exact sep3 q hq w
                            · obtain ⟨_, _, o, eo, _⟩ := oa3.there q hq
                              rw [eo] at w; cases w
                          have nF4 : ∀ q ∈ Sa, F4 q = none := fun q hq => by
                            cases eq : F4 q with
                            | none => rfl
                            | some o =>
                              rcases st4.newF q o eq (nF3 q hq) with w | w
                              · obtain ⟨_, _, o, eo, _⟩ := oa3.there q hq
                                rw [eo] at w; cases w
                              · exact (sep3 q hq w).elim
                          have nd4 := dj4.nd
                          have ra := Rel.frame oa4 (S := Se) (by
                            simp only [List.nodup_append, List.mem_append] at nd2 nd4 sep4 ⊢
                            grind) nF4 Stp.refl re
                          have rall := Rel.frame oy (S := Sa ++ Se) (by
                            simp only [List.nodup_append, List.mem_append] at nd2 nd4 sep4 ⊢
                            grind) (fun q hq => dj4.dF q (by simp [hq])) Stp.refl ra
                          obtain ⟨q, o, us, Su, St, hq, hH, ho, ou, ot, ndm, mk⟩ := Rel.mut (i := 0) (vs := [vy]) (ds := [y]) rfl rall rfl
                          cases hq
                          cases ho
                          obtain ⟨S5, r5, st5⟩ := mk (.lst (us ++ [vy])) .lst (us ++ [vy]) (acc ++ [y]) (Su ++ St) [] [] [] rfl (ou.append ot) .nil (by
                            simp only [List.nodup_append, List.mem_append, List.nil_append] at ndm ⊢
                            grind) (by simp only [List.mem_append, List.nil_append]; grind)
                          have r5 : Rel K W.cl T F4 (upd H4 Dl (.lst (us ++ [vy]))) (some (.ref Dl) :: σ2) (.nd .lst true (acc ++ [y]) :: e3) S5 := r5
                          have dj5 := r5
                          obtain ⟨Sl, Sx, rfl, ol, rx5⟩ := r5.drop1
                          obtain ⟨S6, r6, hs6, hh6⟩ := back rx5 ol dj5.nd fun q hq => dj5.dF q (by simp [hq])
                          refine ⟨us, hH, by rw [ou.length, ← sizeLim]; exact hz, acc ++ [y], _, F4, S6, r6, hh6, ?_, p⟩
                          have st45 : Stp F3 H3 (Sa ++ S3) F4 H4 (Sa ++ (Sy ++ Se)) := st4.frame oa3
                          have st5' := (st5.wide (S2 := Sa ++ (Sy ++ Se)) fun q hq => by
                            simp only [List.mem_append] at hq ⊢
                            grind).less hs6
                          exact (stx.trans st45).trans st5'
                        · rw [if_neg hz] at p; exact p.elim
                | _ => exact p.elim
end
end Wap
set_option Elab.async false
set_option linter.all false
set_option maxRecDepth 100000
set_option maxHeartbeats 1000000
/-! W10: all expressions, all statements, all defs are sound. -/
namespace Wap
open PySem L2
def GLen (G : Gam) : Prop := ∀ f ds, (match G.run f ds with | .ok _ outs => ds.length ≤ outs.length | .exc _ outs => ds.length ≤ outs.length | .bad => True)
section
variable {K : PySem.W.Frag} {W : Wd} {T : List (Addr × Str)} {G : Gam} {P : Nat → Sp} {F F0 F' F1 F2 H H' H1 H2 : Hp} {σ σ' : L2.St} {env env' : List D} {S S' S1 S2 S3 : List Addr} {v u : V} {d : D} {E : XK} {cl : Nat → Addr}
theorem plain {e : Xp} (h : SE K W T G P e) (eq : ∀ E, (rdX K P e E).2 = tB (rdX K P e E).1) : SE K W T G P e ∧ ST K W T G P e := ⟨h, fun E fx env σ H F S Q r p => st_of h (eq E) fx env σ H F S Q r p⟩
theorem se_rf (i : Nat) : SE K W T G P (.rf i) := fun E fx env σ H F S Q r p => by simp only [ev] at p; exact p.elim
theorem sa_any {e : Xp} {es : List Xp} (he : SE K W T G P e) (h : SA K W T G P es) : SA K W T G P (e :: es) := by
  by_cases hv : ∃ i, e = .v i
  · obtain ⟨i, rfl⟩ := hv
    exact sa_v h
  · exact sa_cons (fun i z => hv ⟨i, z⟩) he h
theorem sr_any {e : Xp} {es : List Xp} (he : SE K W T G P e) (h : SR K W T G P es) : SR K W T G P (e :: es) := by
  by_cases hv : ∃ i, e = .rf i
  · obtain ⟨i, rfl⟩ := hv
    exact sr_rf h
  · exact sr_cons (fun i z => hv ⟨i, z⟩) he h
theorem sc_any {a b : Xp} {es : List Xp} : SC K W T G P (a :: b :: es) := fun E fx env σ H F S Q r p => by simp only [evC] at p; exact p.elim
theorem si_nil {k : ItK} : SI K W T G P k [] := fun E fx env σ H F S Q r p => by cases k <;> (simp only [evI] at p; exact p.elim)
theorem si_one {e : Xp} (he : SE K W T G P e) : ∀ k : ItK, SI K W T G P k [e]
  | .rng1 => si_rng1 he
  | .rng2 => fun E fx env σ H F S Q r p => by simp only [evI] at p; exact p.elim
  | .seq => by
      by_cases hv : ∃ i, e = .v i
      · obtain ⟨i, rfl⟩ := hv
        exact si_slot
      · exact si_seq (fun i z => hv ⟨i, z⟩) he
theorem si_two {a b : Xp} (ha : SE K W T G P a) (hb : SE K W T G P b) : ∀ k : ItK, SI K W T G P k [a, b]
  | .rng1 => fun E fx env σ H F S Q r p => by simp only [evI] at p; exact p.elim
  | .rng2 => si_rng2 ha hb
  | .seq => fun E fx env σ H F S Q r p => by cases a <;> exact (show False from p).elim
theorem si_more {a b c : Xp} {es : List Xp} {k : ItK} : SI K W T G P k (a :: b :: c :: es) := fun E fx env σ H F S Q r p => by cases k <;> cases a <;> exact (show False from p).elim
mutual
theorem ev_sound (hG : GOk K W T G P) (hL : GLen G) : ∀ e : Xp, SE K W T G P e ∧ ST K W T G P e
  | .c c => plain (fun E fx env σ H F S Q r p => se_c c E fx env σ H F S Q r p) fun _ => rfl
  | .g _ c => plain (fun E fx env σ H F S Q r p => se_c c E fx env σ H F S Q r p) fun _ => rfl
  | .v i => plain (se_v i) fun _ => rfl
  | .mv i => plain (se_mv i) fun _ => rfl
  | .rf i => plain (se_rf i) fun _ => rfl
  | .pr p es => plain (se_pr (evA_sound hG hL es)) fun _ => rfl
  | .and a b => ⟨se_and (ev_sound hG hL a).1 (ev_sound hG hL b).1, st_and (ev_sound hG hL a).2 (ev_sound hG hL b).2⟩
  | .or a b => ⟨se_or (ev_sound hG hL a).1 (ev_sound hG hL b).1, st_or (ev_sound hG hL a).2 (ev_sound hG hL b).2⟩
  | .not a => ⟨se_not (ev_sound hG hL a).1, st_not (ev_sound hG hL a).2⟩
  | .fz a => plain (se_fz (ev_sound hG hL a).1) fun _ => rfl
  | .chn p q a b c => plain (se_chn (ev_sound hG hL a).1 (ev_sound hG hL b).1 (ev_sound hG hL c).1) fun _ => rfl
  | .slc a b c => plain (se_slc (ev_sound hG hL a).1 (ev_sound hG hL b).1 (ev_sound hG hL c).1) fun _ => rfl
  | .ite c a b => plain (se_ite (ev_sound hG hL c).2 (ev_sound hG hL a).1 (ev_sound hG hL b).1) fun _ => rfl
  | .call f es => plain (se_call hG (evR_sound hG hL es) (hL f)) fun _ => rfl
  | .mut i m es => plain (se_mut (evR_sound hG hL es)) fun _ => rfl
  | .lst es => plain (se_lst (evR_sound hG hL es)) fun _ => rfl
  | .tup es => plain (se_tup (evR_sound hG hL es)) fun _ => rfl
  | .comp tg k its cond elt vs => plain (se_comp (evI_sound hG hL its k) (evC_sound hG hL cond) (ev_sound hG hL elt).1) fun _ => rfl
theorem evA_sound (hG : GOk K W T G P) (hL : GLen G) : ∀ es : List Xp, SA K W T G P es
  | [] => sa_nil
  | e :: es => sa_any (ev_sound hG hL e).1 (evA_sound hG hL es)
theorem evR_sound (hG : GOk K W T G P) (hL : GLen G) : ∀ es : List Xp, SR K W T G P es
  | [] => sr_nil
  | e :: es => sr_any (ev_sound hG hL e).1 (evR_sound hG hL es)
theorem evC_sound (hG : GOk K W T G P) (hL : GLen G) : ∀ es : List Xp, SC K W T G P es
  | [] => sc_nil
  | [e] => sc_one (ev_sound hG hL e).2
  | _ :: _ :: _ => sc_any
theorem evI_sound (hG : GOk K W T G P) (hL : GLen G) : ∀ (es : List Xp) (k : ItK), SI K W T G P k es
  | [], _ => si_nil
  | [e], k => si_one (ev_sound hG hL e).1 k
  | [a, b], k => si_two (ev_sound hG hL a).1 (ev_sound hG hL b).1 k
  | _ :: _ :: _ :: _, _ => si_more
end
end
/-! ### statements -/
def PostS (K : PySem.W.Frag) (W : Wd) (T : List (Addr × Str)) (F H : Hp) (σ : L2.St) (S : List Addr) (fx : List Nat) (N : Ends) (E : XK) : Fl → Prop
  | .nx env => ∀ σ' H' F' S', Rel K W.cl T F' H' σ' env S' → Stp F H S F' H' S' → (∀ i ∈ fx, σ'[i]? = σ[i]?) → N.nx σ' H'
  | .rt d env => ∀ v σ' H' F' S', Rel K W.cl T F' H' (some v :: σ') (d :: env) S' → Stp F H S F' H' S' → (∀ i ∈ fx, σ'[i]? = σ[i]?) → N.rt v H'
  | .bk env => ∀ σ' H' F' S', Rel K W.cl T F' H' σ' env S' → Stp F H S F' H' S' → (∀ i ∈ fx, σ'[i]? = σ[i]?) → N.bk σ' H'
  | .ct env => ∀ σ' H' F' S', Rel K W.cl T F' H' σ' env S' → Stp F H S F' H' S' → (∀ i ∈ fx, σ'[i]? = σ[i]?) → N.ct σ' H'
  | .exc w env => ∀ dd σ' H' F' S', Rel K W.cl T F' H' σ' env S' → Stp F H S F' H' S' → (∀ i ∈ fx, σ'[i]? = σ[i]?) → H' dd = some (xdOf W w) → E (.ref (W.cl w)) (some dd) H'
  | .bad => False
def SS (K : PySem.W.Frag) (W : Wd) (T : List (Addr × Str)) (G : Gam) (P : Nat → Sp) (s : Sm) : Prop := ∀ (E : XK) (fx : List Nat) (env : List D) (σ : L2.St) (H F : Hp) (S : List Addr) (N : Ends), Rel K W.cl T F H σ env S → PostS K W T F H σ S fx N E (exec G s fx env) → rdS K W P E s N σ H
def SSs (K : PySem.W.Frag) (W : Wd) (T : List (Addr × Str)) (G : Gam) (P : Nat → Sp) (s : List Sm) : Prop := ∀ (E : XK) (fx : List Nat) (env : List D) (σ : L2.St) (H F : Hp) (S : List Addr) (N : Ends), Rel K W.cl T F H σ env S → PostS K W T F H σ S fx N E (execs G s fx env) → rdSs K W P E s N σ H
section
variable {K : PySem.W.Frag} {W : Wd} {T : List (Addr × Str)} {G : Gam} {P : Nat → Sp} {F F0 F' F1 F2 H H' H1 H2 : Hp} {σ σ' : L2.St} {env env' : List D} {S S' S1 S2 S3 : List Addr} {v u : V} {d : D} {E : XK} {cl : Nat → Addr} {N : Ends}
theorem PostS.from {fx fx1 : List Nat} {σ1 : L2.St} {o : Fl} (st : Stp F H S F1 H1 S1) (hs : ∀ p ∈ S2, p ∈ S1) (hf : ∀ i ∈ fx, σ1[i]? = σ[i]?) (hx : ∀ i ∈ fx, i ∈ fx1) (h : PostS K W T F H σ S fx N E o) : PostS K W T F1 H1 σ1 S2 fx1 N E o := by
  have tr : ∀ {σ' : L2.St}, (∀ i ∈ fx1, σ'[i]? = σ1[i]?) → ∀ i ∈ fx, σ'[i]? = σ[i]? := fun h i hi => (h i (hx i hi)).trans (hf i hi)
  cases o with
  | nx env => exact fun σ' H' F' S' r s f => h σ' H' F' S' r (st.trans (s.wide hs)) (tr f)
  | rt d env => exact fun v σ' H' F' S' r s f => h v σ' H' F' S' r (st.trans (s.wide hs)) (tr f)
  | bk env => exact fun σ' H' F' S' r s f => h σ' H' F' S' r (st.trans (s.wide hs)) (tr f)
  | ct env => exact fun σ' H' F' S' r s f => h σ' H' F' S' r (st.trans (s.wide hs)) (tr f)
  | exc w env => exact fun dd σ' H' F' S' r s f => h dd σ' H' F' S' r (st.trans (s.wide hs)) (tr f)
  | bad => exact h
/-- an expression, then the rest of the statement -/
theorem flE {e : Xp} {fx : List Nat} {f : D → List D → Fl} {Q : VK} (h : SE K W T G P e) (r : Rel K W.cl T F H σ env S) (p : PostS K W T F H σ S fx N E ((ev G e fx env).fl f))
    (k : ∀ d env1 v H1 F1 S1, PostS K W T F H σ S fx N E (f d env1) → Rel K W.cl T F1 H1 (some v :: σ) (d :: env1) S1 → Stp F H S F1 H1 S1 → Q v H1) : (rdX K P e E).1 σ H Q := by
  refine h E fx env σ H F S Q r ?_
  cases ho : ev G e fx env with
  | ok d env1 => rw [ho] at p; exact fun v H1 F1 S1 r1 st => k d env1 v H1 F1 S1 p r1 st
  | exc w env1 => rw [ho] at p; exact fun dd H' F' S' r' s hx => p dd σ H' F' S' r' s (fun _ _ => rfl) hx
  | bad => rw [ho] at p; exact p.elim
theorem flT {e : Xp} {fx : List Nat} {f : D → List D → Fl} {Q : Bool → Hp → Prop} (h : ST K W T G P e) (r : Rel K W.cl T F H σ env S) (hb : ∀ d env1, (∀ b, d ≠ .bl b) → f d env1 = .bad) (p : PostS K W T F H σ S fx N E ((ev G e fx env).fl f))
    (k : ∀ b env1 H1 F1 S1, PostS K W T F H σ S fx N E (f (.bl b) env1) → Rel K W.cl T F1 H1 σ env1 S1 → Stp F H S F1 H1 S1 → Q b H1) : (rdX K P e E).2 σ H Q := by
  refine h E fx env σ H F S Q r ?_
  cases ho : ev G e fx env with
  | ok d env1 =>
    rw [ho] at p
    have p : PostS K W T F H σ S fx N E (f d env1) := p
    cases d with
    | bl b => exact fun H1 F1 S1 r1 st => k b env1 H1 F1 S1 p r1 st
    | _ => rw [hb _ _ (by intro b z; cases z)] at p; exact p.elim
  | exc w env1 => rw [ho] at p; exact fun dd H' F' S' r' s hx => p dd σ H' F' S' r' s (fun _ _ => rfl) hx
  | bad => rw [ho] at p; exact p.elim
theorem asg_post {fx : List Nat} {i : Nat} {Q : L2.St → Hp → Prop} (r1 : Rel K W.cl T F1 H1 (some v :: σ) (d :: env) S1) (st : Stp F H S F1 H1 S1) (hQ : ∀ σ' S', Rel K W.cl T F1 H1 σ' (env.set i d) S' → Stp F H S F1 H1 S' → (∀ j ∈ fx, σ'[j]? = σ[j]?) → Q σ' H1) (hf : fx.contains i = false) (hi : i < env.length) : Q (σ.set i (some v)) H1 := by
  obtain ⟨S2, r2, hs2⟩ := r1.store hi
  refine hQ _ S2 r2 (st.less hs2) fun j hj => ?_
  rw [List.getElem?_set_ne]
  rintro rfl
  have : fx.contains i = true := by simpa using hj
  rw [hf] at this; cases this
theorem ss_asg {i : Nat} {e : Xp} (he : SE K W T G P e) : SS K W T G P (.asg i e) := fun E fx env σ H F S N r p => by
  simp only [exec] at p
  show (rdX K P e E).1 σ H fun x H1 => N.nx (σ.set i (some x)) H1
  refine flE he r p fun d env1 v H1 F1 S1 p r1 st => ?_
  unfold asgP at p
  split at p
  · exact p.elim
  · rename_i hc
    simp only [Bool.or_eq_true, Bool.not_eq_true', decide_eq_false_iff_not, not_or, Bool.not_eq_true, Decidable.not_not] at hc
    exact asg_post (Q := N.nx) r1 st (fun σ' S' r' s' f => p σ' H1 F1 S' r' s' f) hc.1.1 hc.2
theorem ss_exs {e : Xp} (he : SE K W T G P e) : SS K W T G P (.exs e) := fun E fx env σ H F S N r p => by
  simp only [exec] at p
  show (rdX K P e E).1 σ H fun x H1 => N.nx σ H1
  refine flE he r p fun d env1 v H1 F1 S1 p r1 st => ?_
  obtain ⟨Sa, Sb, rfl, _, r2⟩ := r1.drop1
  exact p σ H1 F1 Sb r2 (st.less fun q hq => by simp [hq]) fun _ _ => rfl
theorem ss_ret {e : Xp} (he : SE K W T G P e) : SS K W T G P (.ret e) := fun E fx env σ H F S N r p => by
  simp only [exec] at p
  show (rdX K P e E).1 σ H N.rt
  refine flE he r p fun d env1 v H1 F1 S1 p r1 st => ?_
  split at p
  · exact p.elim
  · exact p v σ H1 F1 S1 r1 st fun _ _ => rfl
theorem ss_ife {c : Xp} {a b : List Sm} (hc : ST K W T G P c) (ha : SSs K W T G P a) (hb : SSs K W T G P b) : SS K W T G P (.ife c a b) := fun E fx env σ H F S N r p => by
  simp only [exec] at p
  show (rdX K P c E).2 σ H fun k H1 => if k = true then rdSs K W P E a N σ H1 else rdSs K W P E b N σ H1
  refine flT hc r (fun d env1 hd => ?_) p fun k env1 H1 F1 S1 p r1 st => ?_
  · cases d <;> first | rfl | exact (hd _ rfl).elim
  · cases k with
    | true => rw [if_pos rfl]; exact ha E fx env1 σ H1 F1 S1 N r1 (p.from st (fun _ h => h) (fun _ _ => rfl) fun _ h => h)
    | false => rw [if_neg (by decide)]; exact hb E fx env1 σ H1 F1 S1 N r1 (p.from st (fun _ h => h) (fun _ _ => rfl) fun _ h => h)
/-- owned things go into slots -/
theorem putsO : ∀ (js : List Nat) (vs : List V) (ds : List D) (σ : L2.St) (env : List D) (S : List Addr) (Q : L2.St → Hp → Prop), vs.length = ds.length → ds.length = js.length → js.Nodup → (∀ j ∈ js, j < env.length) → Rel K cl T F H (vs.map some ++ σ) (ds ++ env) S →
    (∀ σ' S', Rel K cl T F H σ' ((js.zip ds).foldl (fun e p => e.set p.1 p.2) env) S' → (∀ p ∈ S', p ∈ S) → (∀ i, i ∉ js → σ'[i]? = σ[i]?) → Q σ' H) → gNames js vs σ H Q
  | [], vs, ds, σ, env, S, Q, h1, h2, _, _, r, k => by
    have : ds = [] := List.eq_nil_of_length_eq_zero (by simpa using h2)
    subst this
    have : vs = [] := List.eq_nil_of_length_eq_zero (by simpa using h1)
    subst this
    exact ⟨rfl, k σ S r (fun p hp => hp) fun _ _ => rfl⟩
  | j :: js, [], [], _, _, _, _, _, h, _, _, _, _ => by simp at h
  | j :: js, _ :: _, [], _, _, _, _, h, _, _, _, _, _ => by simp at h
  | j :: js, [], _ :: _, _, _, _, _, h, _, _, _, _, _ => by simp at h
  | j :: js, v :: vs, d :: ds, σ, env, S, Q, h1, h2, hn, hj, r, k => by
    have h1' : vs.length = ds.length := by simpa using h1
    have hlen := r.len
    have hj0 := hj j (by simp)
    obtain ⟨S1, r1, hs1⟩ := Rel.store (i := ds.length + j) (show Rel K cl T F H (some v :: (vs.map some ++ σ)) (d :: (ds ++ env)) S from r) (by simp; omega)
    have e1 : (vs.map some ++ σ).set (ds.length + j) (some v) = vs.map some ++ σ.set j (some v) := by
      rw [List.set_append_right _ _ (by simp; omega)]
      congr 2
      simp; omega
    have e2 : (ds ++ env).set (ds.length + j) d = ds ++ env.set j d := by
      rw [List.set_append_right _ _ (by omega)]
      congr 2
      omega
    rw [e1, e2] at r1
    refine ⟨v, vs, rfl, ?_⟩
    refine putsO js vs ds _ _ S1 Q h1' (by simpa using h2) (List.nodup_cons.mp hn).2 (fun i hi => by rw [List.length_set]; exact hj i (by simp [hi])) r1 fun σ' S' r' hs' hk => ?_
    refine k σ' S' r' (fun p hp => hs1 p (hs' p hp)) fun i hi => ?_
    simp only [List.mem_cons, not_or] at hi
    rw [hk i hi.2, List.getElem?_set_ne (fun z => hi.1 z.symm)]
theorem ss_unp {js : List Nat} {e : Xp} (he : SE K W T G P e) : SS K W T G P (.unp js e) := fun E fx env σ H F S N r p => by
  simp only [exec] at p
  show (rdX K P e E).1 σ H fun x H1 => rdG K (.tup js) x σ H1 N.nx
  refine flE he r p fun d env1 v H1 F1 S1 p r1 st => ?_
  have go : ∀ {k : Kd} {o : Bool} {xs : List D}, d = .nd k o xs → (k = .tup ∨ k = .lst) → PostS K W T F H σ S fx N E (unpQ fx js o xs env1) →
      ∃ q us, v = .ref q ∧ ((k = .tup ∧ SqT K H1 q us) ∨ (k = .lst ∧ SqL K H1 q us)) ∧ us.length = js.length ∧ gNames js us σ H1 N.nx := by
    intro k o xs hd hk pq
    subst hd
    clear p
    unfold unpQ at pq
    split at pq
    · rename_i hc
      obtain ⟨h1, h2, h3, h4, h5⟩ := hc
      simp only [List.all_eq_true, Bool.and_eq_true, Bool.not_eq_true', decide_eq_true_eq] at h2
      have dj := r1
      obtain ⟨Sa, Sb, rfl, o1, r2⟩ := r1.drop1
      -- the things of the tuple beside the state
      have key : ∃ q us Su, v = .ref q ∧ ((k = .tup ∧ SqT K H1 q us) ∨ (k = .lst ∧ SqL K H1 q us)) ∧ Owns K W.cl F1 H1 us xs Su ∧ (∀ p ∈ Su, p ∈ Sa) ∧ Su.Nodup := by
        cases o with
        | true =>
          obtain ⟨q, ho, us, Su, rfl, hq, ho', ou, rfl⟩ := o1.own_inv
          have nd := (List.nodup_append.mp dj.nd).1
          rcases hk with rfl | rfl
          · cases ho'
            exact ⟨q, us, Su, rfl, .inl ⟨rfl, .inl (.inl hq)⟩, ou, fun p hp => by simp [hp], (List.nodup_cons.mp nd).2⟩
          · cases ho'
            exact ⟨q, us, Su, rfl, .inr ⟨rfl, .inl (.inl hq)⟩, ou, fun p hp => by simp [hp], (List.nodup_cons.mp nd).2⟩
        | false =>
          obtain ⟨rp, _⟩ := o1.to_reps (by simp [fz])
          cases rp with
          | sc s _ => cases s
          | @nd q _ _ us _ _ _ f1 f3 _ =>
            have hz : xs.all fz = true := by simpa using h3
            rcases hk with rfl | rfl
            · exact ⟨q, us, [], rfl, .inl ⟨rfl, Wap.Ex.sqt dj.ex f1⟩, Owns.of_reps f3 (by simpa using hz), by simp, List.nodup_nil⟩
            · exact ⟨q, us, [], rfl, .inr ⟨rfl, .inl (.inl (dj.ex _ _ f1))⟩, Owns.of_reps f3 (by simpa using hz), by simp, List.nodup_nil⟩
      obtain ⟨q, us, Su, rfl, hq, ou, hsu, ndu⟩ := key
      have hl := ou.length
      have r3 := Rel.frame ou (S := Sb) (by
        have nd := dj.nd
        simp only [List.nodup_append] at nd ⊢
        exact ⟨ndu, nd.2.1, fun a ha b hb => nd.2.2 a (hsu a ha) b hb⟩) (fun p hp => dj.dF p (by simp [hsu p hp])) Stp.refl r2
      refine ⟨q, us, rfl, hq, by omega, ?_⟩
      refine putsO js us xs σ env1 _ N.nx hl h1 h5 (fun j hj => (h2 j hj).2) r3 fun σ' S' r' hs' hk => ?_
      refine pq σ' H1 F1 S' r' (st.less fun q hq => ?_) fun i hi => hk i fun z => ?_
      · have := hs' q hq
        simp only [List.mem_append] at this ⊢
        exact this.imp (hsu q) id
      · have := (h2 i z).1
        have h : fx.contains i = true := by simpa using hi
        rw [this] at h; cases h
    · exact pq.elim
  unfold unpP at p
  split at p
  · obtain ⟨q, us, rfl, hq, hl, hg⟩ := go rfl (.inl rfl) p
    rcases hq with ⟨_, hq⟩ | ⟨z, _⟩
    · exact .inl ⟨q, us, rfl, hq, hl, hg⟩
    · cases z
  · obtain ⟨q, us, rfl, hq, hl, hg⟩ := go rfl (.inr rfl) p
    rcases hq with ⟨z, _⟩ | ⟨_, hq⟩
    · cases z
    · exact .inr ⟨q, us, rfl, hq, hl, hg⟩
  · exact p.elim
end
end Wap
set_option Elab.async false
set_option linter.all false
set_option maxRecDepth 100000
set_option maxHeartbeats 1000000
/-! W11: all statements are sound. -/
namespace Wap
open PySem L2
section
variable {K : PySem.W.Frag} {W : Wd} {T : List (Addr × Str)} {G : Gam} {P : Nat → Sp} {F F0 F' F1 F2 H H' H1 H2 : Hp} {σ σ' : L2.St} {env env' : List D} {S S' S1 S2 S3 : List Addr} {v u : V} {d : D} {E : XK} {cl : Nat → Addr} {N : Ends}
theorem ss_retN : SS K W T G P .retN := fun E fx env σ H F S N r p => by
  have ow : Owns K W.cl F H [.non] [.non] [] := Owns.of_reps (.sc .non .nil) (by simp [fz])
  have r1 := Rel.frame ow (by simpa using r.nd) (by simp) Stp.refl r
  exact p .non σ H F S (by simpa using r1) Stp.refl fun _ _ => rfl
theorem ss_brk : SS K W T G P .brk := fun E fx env σ H F S N r p => p σ H F S r Stp.refl fun _ _ => rfl
theorem ss_cnt : SS K W T G P .cnt := fun E fx env σ H F S N r p => p σ H F S r Stp.refl fun _ _ => rfl
theorem ss_pas : SS K W T G P .pas := fun E fx env σ H F S N r p => p σ H F S r Stp.refl fun _ _ => rfl
/-- a new thing that nothing points to -/
theorem Rel.more {p : Addr} {o : HO} (r : Rel K cl T F H σ env S) (h : H p = none) : Rel K cl T F (upd H p o) σ env S ∧ Stp F H S F (upd H p o) S := by
  have ex := Wap.Ex.new (o := o) h
  refine ⟨⟨r.own.mono (Wap.Ex.refl F) fun q u _ e => ex q u e, r.set, r.nd, r.dF, r.ex.trans ex, r.nt, r.tab.ext ex⟩, ⟨Wap.Ex.refl F, fun q u e _ _ => ex q u e, fun q e => ?_, fun q u e n => (by rw [e] at n; cases n), fun q hq => .inl hq⟩⟩
  by_cases z : q = p
  · subst z; exact h
  · rw [upd_ne z] at e; exact e
theorem ss_rse {w : Nat} : SS K W T G P (.rse w) := fun E fx env σ H F S N r p => by
  intro d hd
  obtain ⟨r1, st⟩ := r.more (o := xdOf W w) hd
  exact p d σ _ F S r1 st (fun _ _ => rfl) upd_same
theorem ss_kil {js : List Nat} : SS K W T G P (.kil js) := fun E fx env σ H F S N r p => by
  obtain ⟨S', r1, hs⟩ := r.kills js
  exact p σ H F S' r1 (Stp.refl.less hs) fun _ _ => rfl
theorem st_self {i : Nat} {v : V} (h : σ[i]? = some (some v)) : σ.set i (some v) = σ := set_self h
theorem ss_aug {i : Nat} {e : Xp} (he : SE K W T G P e) : SS K W T G P (.aug i e) := fun E fx env σ H F S N r p => by
  simp only [exec] at p
  split at p
  rotate_left
  · exact p.elim
  rename_i hs
  obtain ⟨d0, hd0, hne⟩ := okSlot_inv hs
  obtain ⟨x, hx⟩ := r.set i d0 hd0 hne
  refine ⟨x, hx, flE he r p fun d env1 y H1 F1 S1 p r1 st => ?_⟩
  have r1' := r1
  obtain ⟨Sa, Sb, rfl, oy, r2⟩ := r1.drop1
  unfold augP at p
  split at p
  · rename_i _ _ a b e1
    obtain ⟨v, S3, hv, ov⟩ := r2.look e1 rfl
    rw [hx] at hv; cases hv
    obtain ⟨rp, _⟩ := ov.to_reps (by simp [fz])
    obtain ⟨rq, rfl⟩ := oy.to_reps (by simp [fz])
    cases rp with
    | sc s _ =>
    cases s
    cases rq with
    | sc s' _ =>
    cases s'
    refine .inl (.inl ⟨a, b, rfl, rfl, ?_⟩)
    unfold asgP at p
    split at p
    · exact p.elim
    · rename_i hc
      simp only [Bool.or_eq_true, Bool.not_eq_true', decide_eq_false_iff_not, not_or, Bool.not_eq_true, Decidable.not_not] at hc
      obtain ⟨S4, r4, hs4⟩ := r2.put1 (d := .int (a + b)) (.sc (.int _) .nil) rfl hc.2
      refine p _ H1 F1 S4 r4 (st.less fun q hq => by simp [hs4 q hq]) fun j hj => ?_
      rw [List.getElem?_set_ne]
      rintro rfl
      have : fx.contains i = true := by simpa using hj
      rw [hc.1.1] at this; cases this
  · rename_i _ _ a b e1
    split at p
    rotate_left
    · exact p.elim
    rename_i hlim
    obtain ⟨v, S3, hv, ov⟩ := r2.look e1 rfl
    rw [hx] at hv; cases hv
    obtain ⟨rp, _⟩ := ov.to_reps (by simp [fz])
    obtain ⟨rq, rfl⟩ := oy.to_reps (by simp [fz])
    cases rp with
    | sc s _ =>
    cases s
    cases rq with
    | sc s' _ =>
    cases s'
    refine .inl (.inr ⟨sOf a, sOf b, rfl, rfl, ?_, ?_⟩)
    · rw [length_sOf, length_sOf, ← sizeLim]; exact hlim
    · rw [sOf_app]
      unfold asgP at p
      split at p
      · exact p.elim
      · rename_i hc
        simp only [Bool.or_eq_true, Bool.not_eq_true', decide_eq_false_iff_not, not_or, Bool.not_eq_true, Decidable.not_not] at hc
        obtain ⟨S4, r4, hs4⟩ := r2.put1 (d := .str (a ++ b)) (.sc (.str _) .nil) rfl hc.2
        refine p _ H1 F1 S4 r4 (st.less fun q hq => by simp [hs4 q hq]) fun j hj => ?_
        rw [List.getElem?_set_ne]
        rintro rfl
        have : fx.contains i = true := by simpa using hj
        rw [hc.1.1] at this; cases this
  · rename_i _ _ xs o ys e1
    split at p
    rotate_left
    · exact p.elim
    rename_i hc
    simp only [Bool.and_eq_true, Bool.not_eq_true', decide_eq_true_eq, Bool.or_eq_true] at hc
    obtain ⟨⟨⟨h1, h2⟩, h3⟩, h4⟩ := hc
    obtain ⟨q, ho, us, Sc, St, hq, hH, hho, ou, ot, ndm, mk⟩ := Rel.mut (i := i) (vs := [y]) (ds := [.nd .lst o ys]) rfl r1' e1
    rw [hx] at hq; cases hq
    cases hho
    have key : ∃ b us' Su, y = .ref b ∧ H1 b = some (.lst us') ∧ Owns K W.cl F1 H1 us' ys Su ∧ (∀ q ∈ Su, q ∈ St) ∧ Su.Nodup := by
      cases o with
      | true =>
        obtain ⟨b, ho', us', Su, rfl, hb, hho', ou', rfl⟩ := ot.own_inv
        cases hho'
        have nd := (List.nodup_append.mp ndm).1
        exact ⟨b, us', Su, rfl, hb, ou', fun q hq => by simp [hq], (List.nodup_cons.mp nd).2⟩
      | false =>
        obtain ⟨rp, _⟩ := ot.to_reps (by simp [fz])
        cases rp with
        | sc s _ => cases s
        | @nd b _ _ us' _ _ _ f1 f3 _ =>
          have hz : ys.all fz = true := by simpa using h1
          exact ⟨b, us', [], rfl, r1'.ex _ _ f1, Owns.of_reps f3 (by simpa using hz), by simp, List.nodup_nil⟩
    obtain ⟨b, us', Su, rfl, hb, ou', hsu, ndu⟩ := key
    have l1 := ou.length
    have l2 := ou'.length
    refine .inr ⟨q, b, us, us', rfl, rfl, hH, hb, by rw [← sizeLim, l1, l2]; exact h3, ?_⟩
    obtain ⟨S5, r5, st5⟩ := mk (.lst (us ++ us')) .lst (us ++ us') (xs ++ ys) (Sc ++ Su) [] [] [] rfl (ou.append ou') .nil (by
      simp only [List.nodup_append, List.mem_append, List.nil_append] at ndm ⊢
      grind) (by simp only [List.mem_append, List.nil_append]; grind)
    rw [st_self hx]
    exact p _ _ F1 S5 r5 (st.trans st5) fun _ _ => rfl
  · exact p.elim
theorem itFx_sub (it : ItD) (fx : List Nat) : (∀ i ∈ fx, i ∈ itFx it fx) ∧ ∀ i ∈ itFx it [], i ∈ itFx it fx := by
  cases it <;> simp [itFx] 
  all_goals intro i hi; exact .inr hi
theorem ss_fors {tg : Tg} {k : ItK} {its : List Xp} {body : List Sm} (hi : SI K W T G P k its) (hb : SSs K W T G P body) : SS K W T G P (.fors tg k its body) := fun E fx env σ H F S N r p => by
  simp only [exec] at p
  show rdI K k (rdA K P its E) (rdH K P its E) σ H _
  refine hi E fx env σ H F S _ r ?_
  cases hI : evI G k its fx env with
  | bad => rw [hI] at p; exact p.elim
  | exc w env1 => rw [hI] at p; exact fun dd H' F' S' r' s hx => p dd σ H' F' S' r' s (fun _ _ => rfl) hx
  | ok it env0 =>
    rw [hI] at p
    obtain ⟨bodyf, hbody⟩ : ∃ f, f = turnF (fun x e => bindT (itFx it fx) tg x e) (fun e => execs G body (itFx it fx) e) := ⟨_, rfl⟩
    have p : PostS K W T F H σ S fx N E (loopL (itm it) bodyf fuel 0 env0) := by rw [hbody]; exact p
    intro J H1 F1 S1 r1 st1 wk
    obtain ⟨sub1, sub2⟩ := itFx_sub it fx
    let Wm : Nat → Nat → L2.St → Hp → Prop := fun i m σ2 H2 => ∃ e F2 S2, Rel K W.cl T F2 H2 σ2 e S2 ∧ Stp F1 H1 S1 F2 H2 S2 ∧ (∀ j ∈ itFx it fx, σ2[j]? = σ[j]?) ∧ PostS K W T F H σ S fx N E (loopL (itm it) bodyf m i e)
    refine ⟨Wm, ⟨fuel, env0, F1, S1, r1, Stp.refl, fun _ _ => rfl, p⟩, ?_⟩
    rintro i m σ2 H2 ⟨e, F2, S2, r2, st2, fix2, p⟩
    obtain ⟨wstop, wgo⟩ := wk i F2 H2 σ2 e S2 r2 st2.exF fun j hj => fix2 j (sub2 j hj)
    cases m with
    | zero => exact p.elim
    | succ f =>
      simp only [loopL] at p
      cases hit : itm it i e with
      | none => rw [hit] at p; exact p.elim
      | some ox =>
        rw [hit] at p
        cases ox with
        | none =>
          left
          exact ⟨wstop hit, p σ2 H2 F2 S2 r2 (st1.trans st2) fun j hj => fix2 j (sub1 j hj)⟩
        | some x =>
          right
          obtain ⟨wg, wy⟩ := wgo x hit
          refine ⟨wg, Wm (i + 1) f, fun σ' H' w => ⟨f, Nat.lt_succ_self f, w⟩, fun v H2' y => ?_⟩
          obtain ⟨rfl, rx⟩ := wy v H2' y
          have ht : bodyf x e = (match bindT (itFx it fx) tg x e with
            | some e1 => execs G body (itFx it fx) e1
            | none => Fl.bad) := by rw [hbody]; rfl
          have p : PostS K W T F H σ S fx N E (match bodyf x e with
            | .nx env' => loopL (itm it) bodyf f (i + 1) env'
            | .ct env' => loopL (itm it) bodyf f (i + 1) env'
            | .bk env' => .nx env'
            | o => o) := p
          rw [ht] at p
          cases hbd : bindT (itFx it fx) tg x e with
          | none => rw [hbd] at p; exact p.elim
          | some e1 =>
            rw [hbd] at p
            refine bindT_sound r2 rx hbd fun σ3 S3 r3 hs3 hk3 hn3 hL3 => ?_
            have fix3 : ∀ j ∈ itFx it fx, σ3[j]? = σ[j]? := fun j hj => by
              rw [hk3 j (fun z => hn3 j z hj), fix2 j hj]
            refine hb E (itFx it fx) e1 σ3 H2' F2 S3 _ r3 ?_
            have st3 : ∀ {F' H' : Hp} {S' : List Addr}, Stp F2 H2' S3 F' H' S' → Stp F1 H1 S1 F' H' S' := fun s => st2.trans (s.wide hs3)
            have tr : ∀ {σ' : L2.St}, (∀ j ∈ itFx it fx, σ'[j]? = σ3[j]?) → ∀ j ∈ itFx it fx, σ'[j]? = σ[j]? := fun h j hj => (h j hj).trans (fix3 j hj)
            have p : PostS K W T F H σ S fx N E (match execs G body (itFx it fx) e1 with
              | .nx env' => loopL (itm it) bodyf f (i + 1) env'
              | .ct env' => loopL (itm it) bodyf f (i + 1) env'
              | .bk env' => .nx env'
              | o => o) := p
            cases ho : execs G body (itFx it fx) e1 with
            | nx e2 => rw [ho] at p; exact fun σ' H' F' S' r' s f' => ⟨e2, F', S', r', st3 s, tr f', p⟩
            | ct e2 => rw [ho] at p; exact fun σ' H' F' S' r' s f' => ⟨e2, F', S', r', st3 s, tr f', p⟩
            | bk e2 => rw [ho] at p; exact fun σ' H' F' S' r' s f' => p σ' H' F' S' r' (st1.trans (st3 s)) fun j hj => tr f' j (sub1 j hj)
            | rt d e2 => rw [ho] at p; exact fun v σ' H' F' S' r' s f' => p v σ' H' F' S' r' (st1.trans (st3 s)) fun j hj => tr f' j (sub1 j hj)
            | exc w e2 => rw [ho] at p; exact fun dd σ' H' F' S' r' s f' => p dd σ' H' F' S' r' (st1.trans (st3 s)) fun j hj => tr f' j (sub1 j hj)
            | bad => rw [ho] at p; exact p.elim
theorem ss_whl {c : Xp} {body : List Sm} (hc : ST K W T G P c) (hb : SSs K W T G P body) : SS K W T G P (.whl c body) := fun E fx env σ H F S N r p => by
  simp only [exec] at p
  obtain ⟨test, htest⟩ : ∃ f, f = (fun e => ev G c fx e) := ⟨_, rfl⟩
  obtain ⟨bodyf, hbody⟩ : ∃ f, f = (fun e => execs G body fx e) := ⟨_, rfl⟩
  rw [← htest, ← hbody] at p
  let Wm : Nat → L2.St → Hp → Prop := fun m σ2 H2 => ∃ e F2 S2, Rel K W.cl T F2 H2 σ2 e S2 ∧ PostS K W T F2 H2 σ2 S2 fx N E (whlL test bodyf m e)
  refine ⟨Wm, ⟨fuel, env, F, S, r, p⟩, ?_⟩
  rintro m σ2 H2 ⟨e, F2, S2, r2, p⟩
  cases m with
  | zero => exact p.elim
  | succ f =>
    simp only [whlL] at p
    have ht : test e = ev G c fx e := by rw [htest]
    rw [ht] at p
    refine flT hc r2 (fun d env1 hd => ?_) p fun b e1 H3 F3 S3 p3 r3 st3 => ?_
    · cases d <;> first | rfl | exact (hd _ rfl).elim
    · cases b with
      | false =>
        rw [if_neg (by decide)]
        exact p3 σ2 H3 F3 S3 r3 st3 fun _ _ => rfl
      | true =>
        rw [if_pos rfl]
        refine ⟨Wm f, fun σ' H' w => ⟨f, Nat.lt_succ_self f, w⟩, ?_⟩
        refine hb E fx e1 σ2 H3 F3 S3 _ r3 ?_
        have hbe : bodyf e1 = execs G body fx e1 := by rw [hbody]
        have p3 : PostS K W T F2 H2 σ2 S2 fx N E (match bodyf e1 with
          | .nx env' => whlL test bodyf f env'
          | .ct env' => whlL test bodyf f env'
          | .bk env' => .nx env'
          | o => o) := p3
        rw [hbe] at p3
        cases ho : execs G body fx e1 with
        | bk e2 => rw [ho] at p3; exact fun σ' H' F' S' r' s f' => p3 σ' H' F' S' r' (st3.trans s) f'
        | rt d e2 => rw [ho] at p3; exact fun v σ' H' F' S' r' s f' => p3 v σ' H' F' S' r' (st3.trans s) f'
        | exc w e2 => rw [ho] at p3; exact fun dd σ' H' F' S' r' s f' => p3 dd σ' H' F' S' r' (st3.trans s) f'
        | bad => rw [ho] at p3; exact p3.elim
        | nx e2 => rw [ho] at p3; exact fun σ' H' F' S' r' s f' => ⟨e2, F', S', r', PostS.from (st3.trans s) (fun _ h => h) f' (fun _ h => h) p3⟩
        | ct e2 => rw [ho] at p3; exact fun σ' H' F' S' r' s f' => ⟨e2, F', S', r', PostS.from (st3.trans s) (fun _ h => h) f' (fun _ h => h) p3⟩
theorem rdSs_cons {s : Sm} {ss : List Sm} (h : ∀ js, s ≠ .kil js) : rdSs K W P E (s :: ss) = tSeq (rdS K W P E s) (rdSs K W P E ss) := by
  cases s <;> first | rfl | exact (h _ rfl).elim
theorem sss_nil : SSs K W T G P [] := fun E fx env σ H F S N r p => p σ H F S r Stp.refl fun _ _ => rfl
theorem sss_cons {s : Sm} {ss : List Sm} (h1 : SS K W T G P s) (h2 : SSs K W T G P ss) : SSs K W T G P (s :: ss) := fun E fx env σ H F S N r p => by
  have p : PostS K W T F H σ S fx N E ((exec G s fx env).then fun env1 => execs G ss fx env1) := p
  by_cases hk : ∃ js, s = .kil js
  · obtain ⟨js, rfl⟩ := hk
    obtain ⟨S', r1, hs⟩ := r.kills js
    exact h2 E fx _ σ H F S' N r1 (PostS.from (Stp.refl.less hs) (fun _ h => h) (fun _ _ => rfl) (fun _ h => h) p)
  · rw [rdSs_cons fun js z => hk ⟨js, z⟩]
    refine h1 E fx env σ H F S _ r ?_
    cases ho : exec G s fx env with
    | nx e1 => rw [ho] at p; exact fun σ' H' F' S' r' s f => h2 E fx e1 σ' H' F' S' N r' (PostS.from s (fun _ h => h) f (fun _ h => h) p)
    | rt d e1 => rw [ho] at p; exact p
    | bk e1 => rw [ho] at p; exact p
    | ct e1 => rw [ho] at p; exact p
    | exc w e1 => rw [ho] at p; exact p
    | bad => rw [ho] at p; exact p.elim
mutual
theorem exec_sound (hG : GOk K W T G P) (hL : GLen G) : ∀ s : Sm, SS K W T G P s
  | .asg _ e => ss_asg (ev_sound hG hL e).1
  | .unp _ e => ss_unp (ev_sound hG hL e).1
  | .exs e => ss_exs (ev_sound hG hL e).1
  | .aug _ e => ss_aug (ev_sound hG hL e).1
  | .ife c a b => ss_ife (ev_sound hG hL c).2 (execs_sound hG hL a) (execs_sound hG hL b)
  | .fors _ k its body => ss_fors (evI_sound hG hL its k) (execs_sound hG hL body)
  | .whl c body => ss_whl (ev_sound hG hL c).2 (execs_sound hG hL body)
  | .ret e => ss_ret (ev_sound hG hL e).1
  | .retN => ss_retN
  | .rse _ => ss_rse
  | .brk => ss_brk
  | .cnt => ss_cnt
  | .pas => ss_pas
  | .kil _ => ss_kil
theorem execs_sound (hG : GOk K W T G P) (hL : GLen G) : ∀ ss : List Sm, SSs K W T G P ss
  | [] => sss_nil
  | s :: ss => sss_cons (exec_sound hG hL s) (execs_sound hG hL ss)
end
end
end Wap
set_option Elab.async false
set_option linter.all false
set_option maxRecDepth 100000
set_option maxHeartbeats 1000000
/-! W12: the check that ties the small syntax to the text, and that it is sound for the hand layer. -/
namespace Wap
open PySem PySem.Spec PyProof.Rows L2

/-! ### what is checked -/
structure Cc where
  N : List Str
  sc : Scope
  blk : Bool
  fns : List (Str × Nat)
  cns : List (Str × Cn)
  rss : List (Str × Nat)
def bNames : List Str := ["len", "range", "abs", "int", "list", "tuple", "sum", "all", "any", "min", "max", "isinstance", "str", "bool"]
def Cc.gl (c : Cc) (x : Str) : Bool := decide (c.sc.names.lookup x = some .globalImplicit) && decide (x ≠ "__debug__")
def Cc.vis (c : Cc) (i : Nat) (x : Str) : Bool := decide (c.N[i]? = some x) && (decide (c.sc.names.lookup x = some .local) || decide (c.sc.names.lookup x = some .cell) || decide (c.sc.names.lookup x = some .free)) && !(x == ("__debug__" : Str)) && !(x == ("__classdict__" : Str))
def Cc.asg (c : Cc) (i : Nat) (x : Str) : Bool := decide (c.N[i]? = some x) && (decide (c.sc.names.lookup x = some .local) || (!c.blk && decide (c.sc.names.lookup x = some .cell)))
def notStar : Expr → Bool
  | .Starred .. => false | _ => true
def notSet : Expr → Bool
  | .Set .. => false | _ => true
def notSl : Expr → Bool
  | .Slice .. => false | _ => true
def notComp : Expr → Bool
  | .ListComp .. => false | .SetComp .. => false | .DictComp .. => false | _ => true
def notTup : Expr → Bool
  | .Tuple .. => false | _ => true
def notCall : Expr → Bool
  | .Call .. => false | _ => true
def binO : Pr → Option Operator
  | .add => some .Add | .sub => some .Sub | .mul => some .Mult | .fdiv => some .FloorDiv | .mod => some .Mod | .pow => some .Pow | _ => none
def cmpO : Pr → Option CmpOp
  | .eq => some .Eq | .ne => some .NotEq | .lt => some .Lt | .le => some .LtE | .gt => some .Gt | .ge => some .GtE | .inn => some .In | .nin => some .NotIn | _ => none
def fnO : Pr → Option Str
  | .len => some "len" | .abs => some "abs" | .min2 => some "min" | .max2 => some "max" | .sum => some "sum" | .all => some "all" | .any => some "any" | _ => none
def tyO : Pr → Option Str
  | .int => some "int" | .list => some "list" | .tuple => some "tuple" | _ => none
def cnOf : Const → Option Cn
  | .int i => some (.int i) | .bool b => some (.bl b) | .none => some .non | .str s => some (.str s.cps.toList) | _ => none
/-- the operands of an operation, in the text -/
def subs (c : Cc) (p : Pr) : Expr → Option (List Expr)
  | .BinOp a op b _ => if binO p = some op then some [a, b] else none
  | .Compare a [op] [b] _ => if cmpO p = some op ∧ notSet b = true then some [a, b]
    else (match p, op, b with
    | .isN, .Is, .Constant .none _ _ => some [a]
    | .isnN, .IsNot, .Constant .none _ _ => some [a]
    | _, _, _ => none)
  | .UnaryOp .USub a _ => if p = .neg then some [a] else none
  | .Subscript a (.Slice (some b) none none _) _ => if p = .slA then some [a, b] else none
  | .Subscript a (.Slice none (some b) none _) _ => if p = .slB then some [a, b] else none
  | .Subscript a (.Slice none none (some (.UnaryOp .USub (.Constant (.int 1) _ _) _)) _) _ => if p = .rev then some [a] else none
  | .Subscript a b _ => if p = .idx ∧ notSl b = true then some [a, b] else none
  | .Call (.Name x _) args [] _ => if (fnO p = some x ∨ tyO p = some x) ∧ c.gl x = true ∧ args ≠ [] then some args
    else (match p, args with
    | .isi ty, [a, .Name t _] => if x = "isinstance" ∧ t = (tyN ty : Str) ∧ c.gl x = true ∧ c.gl t = true then some [a] else none
    | _, _ => none)
  | _ => none
def tgOk (c : Cc) : Tg → Expr → Bool
  | .one j, .Name x _ => c.asg j x
  | .tup js, .Tuple es _ _ => go js es
  | _, _ => false
where go : List Nat → List Expr → Bool
  | [], [] => true
  | j :: js, .Name x _ :: es => c.asg j x && go js es
  | _, _ => false
def Cc.inn (c : Cc) (scope : Scope) : Cc := { c with sc := relS scope c.sc, blk := true }
/-- may stand as a test as it is read -/
def tst : Xp → Bool
  | .and a b => tst a && tst b
  | .or a b => tst a && tst b
  | .not a => tst a
  | .fz _ => false
  | .ite .. => false
  | _ => true
def vCon : Expr → Option Const
  | .Constant k _ _ => some k | _ => none
def vNam : Expr → Option Str
  | .Name y _ => some y | _ => none
def vAnd : Expr → Option (Expr × Expr × List Expr × Pos)
  | .BoolOp .And (x :: y :: r) pos => some (x, y, r, pos) | _ => none
def vOr : Expr → Option (Expr × Expr × List Expr × Pos)
  | .BoolOp .Or (x :: y :: r) pos => some (x, y, r, pos) | _ => none
def vNot : Expr → Option Expr
  | .UnaryOp .Not x _ => some x | _ => none
def vChn : Expr → Option (Expr × CmpOp × Expr × CmpOp × Expr)
  | .Compare x [op, op'] [y, z] _ => some (x, op, y, op', z) | _ => none
def vSlc : Expr → Option (Expr × Expr × Expr)
  | .Subscript x (.Slice (some y) (some z) none _) _ => some (x, y, z) | _ => none
def vIf : Expr → Option (Expr × Expr × Expr)
  | .IfExp x y z _ => some (x, y, z) | _ => none
def vCall : Expr → Option (Str × List Expr)
  | .Call (.Name x _) xs [] _ => some (x, xs) | _ => none
def vMut : Expr → Option (Str × Str × Pos × List Expr × Pos)
  | .Call (.Attribute (.Name x _) nm apos) xs [] cpos => some (x, nm, apos, xs, cpos) | _ => none
def vLst : Expr → Option (List Expr)
  | .List xs _ => some xs | _ => none
def vTup : Expr → Option (List Expr)
  | .Tuple xs _ _ => some xs | _ => none
def vLc : Expr → Option (Expr × Expr × Expr × List Expr × Scope)
  | .ListComp el [⟨tx, ix, ifs, 0⟩] scope _ => some (el, tx, ix, ifs, scope) | _ => none
def muOk (xs : List Expr) (nm : Str) : Mu → Bool
  | .append => decide (nm = "append")
  | .pop => decide (nm = "pop") && decide (xs = [])
  | .popAt => decide (nm = "pop") && decide (xs ≠ [])
  | .reverse => decide (nm = "reverse") && decide (xs = [])
  | _ => false
def itX (c : Cc) : ItK → Expr → Option (List Expr)
  | .rng1, e => (match vCall e with
    | some (x, [a]) => if x = "range" ∧ c.gl x = true then some [a] else none
    | _ => none)
  | .rng2, e => (match vCall e with
    | some (x, [a, b]) => if x = "range" ∧ c.gl x = true then some [a, b] else none
    | _ => none)
  | .seq, e => if notSet e = true then some [e] else none
mutual
def chkE (c : Cc) : Xp → Expr → Bool
  | .c d, e => (match vCon e with
    | some k => decide (cnOf k = some d)
    | none => false)
  | .g x d, e => (match vNam e with
    | some y => decide (x = y) && c.gl y && decide (c.cns.lookup y = some d)
    | none => false)
  | .v i, e => (match vNam e with
    | some y => c.vis i y
    | none => false)
  | .mv i, e => (match vNam e with
    | some y => c.vis i y
    | none => false)
  | .rf i, e => (match vNam e with
    | some y => c.vis i y
    | none => false)
  | .pr p es, e => (match subs c p e with
    | some xs => chkA c es xs
    | none => false)
  | .and a b, e => (match vAnd e with
    | some (x, y, [], _) => chkE c a x && chkE c b y
    | some (x, y, r, pos) => chkE c a x && chkE c b (.BoolOp .And (y :: r) pos)
    | none => false)
  | .or a b, e => (match vOr e with
    | some (x, y, [], _) => chkE c a x && chkE c b y
    | some (x, y, r, pos) => chkE c a x && chkE c b (.BoolOp .Or (y :: r) pos)
    | none => false)
  | .not a, e => (match vNot e with
    | some x => chkE c a x
    | none => false)
  | .fz a, e => chkE c a e
  | .chn p q a b d, e => (match vChn e with
    | some (x, op, y, op', z) => decide (cmpO p = some op) && decide (cmpO q = some op') && notSet z && chkE c a x && chkE c b y && chkE c d z
    | none => false)
  | .slc a b d, e => (match vSlc e with
    | some (x, y, z) => chkE c a x && chkE c b y && chkE c d z
    | none => false)
  | .ite t a b, e => (match vIf e with
    | some (x, y, z) => tst t && chkE c t x && chkE c a y && chkE c b z
    | none => false)
  | .call f es, e => (match vCall e with
    | some (x, xs) => decide (c.fns.lookup x = some f) && c.gl x && chkA c es xs
    | none => false)
  | .mut i m es, e => (match vMut e with
    | some (x, nm, apos, xs, cpos) => c.vis i x && decide (apos.endLine = cpos.line) && decide (xs.length < 3) && muOk xs nm m && chkA c es xs
    | none => false)
  | .lst es, e => (match vLst e with
    | some xs => chkA c es xs
    | none => false)
  | .tup es, e => (match vTup e with
    | some xs => chkA c es xs
    | none => false)
  | .comp tg k its cond elt vs, e => (match vLc e with
    | some (el, tx, ix, ifs, scope) => (match vs.mapM (fun j => (c.N[j]?).map fun x => (x, j)) with
      | some own => blkC c.N c.sc scope own && (match itX c k ix with | some xs => chkA c its xs | none => false) && tgOk (c.inn scope) tg tx && chkA (c.inn scope) cond ifs && cond.all tst && decide (cond.length < 2) && chkE (c.inn scope) elt el
      | none => false)
    | none => false)
termination_by structural x => x
def chkA (c : Cc) : List Xp → List Expr → Bool
  | [], [] => true
  | a :: es, x :: xs => notStar x && chkE c a x && chkA c es xs
  | _, _ => false
termination_by structural xs => xs
end
def chkI (c : Cc) (k : ItK) (its : List Xp) (e : Expr) : Bool := match itX c k e with
  | some xs => chkA c its xs
  | none => false
theorem vCon_inv {e : Expr} {k : Const} (h : vCon e = some k) : ∃ j p, e = .Constant k j p := by unfold vCon at h; split at h <;> cases h; exact ⟨_, _, rfl⟩
theorem vNam_inv {e : Expr} {y : Str} (h : vNam e = some y) : ∃ p, e = .Name y p := by unfold vNam at h; split at h <;> cases h; exact ⟨_, rfl⟩
theorem vAnd_inv {e x y : Expr} {r : List Expr} {pos : Pos} (h : vAnd e = some (x, y, r, pos)) : e = .BoolOp .And (x :: y :: r) pos := by unfold vAnd at h; split at h <;> cases h; rfl
theorem vOr_inv {e x y : Expr} {r : List Expr} {pos : Pos} (h : vOr e = some (x, y, r, pos)) : e = .BoolOp .Or (x :: y :: r) pos := by unfold vOr at h; split at h <;> cases h; rfl
theorem vNot_inv {e x : Expr} (h : vNot e = some x) : ∃ p, e = .UnaryOp .Not x p := by unfold vNot at h; split at h <;> cases h; exact ⟨_, rfl⟩
theorem vChn_inv {e x y z : Expr} {op op' : CmpOp} (h : vChn e = some (x, op, y, op', z)) : ∃ p, e = .Compare x [op, op'] [y, z] p := by unfold vChn at h; split at h <;> cases h; exact ⟨_, rfl⟩
theorem vSlc_inv {e x y z : Expr} (h : vSlc e = some (x, y, z)) : ∃ p q, e = .Subscript x (.Slice (some y) (some z) none p) q := by unfold vSlc at h; split at h <;> cases h; exact ⟨_, _, rfl⟩
theorem vIf_inv {e x y z : Expr} (h : vIf e = some (x, y, z)) : ∃ p, e = .IfExp x y z p := by unfold vIf at h; split at h <;> cases h; exact ⟨_, rfl⟩
theorem vCall_inv {e : Expr} {x : Str} {xs : List Expr} (h : vCall e = some (x, xs)) : ∃ p q, e = .Call (.Name x p) xs [] q := by unfold vCall at h; split at h <;> cases h; exact ⟨_, _, rfl⟩
theorem vMut_inv {e : Expr} {x nm : Str} {apos cpos : Pos} {xs : List Expr} (h : vMut e = some (x, nm, apos, xs, cpos)) : ∃ p, e = .Call (.Attribute (.Name x p) nm apos) xs [] cpos := by unfold vMut at h; split at h <;> cases h; exact ⟨_, rfl⟩
theorem vLst_inv {e : Expr} {xs : List Expr} (h : vLst e = some xs) : ∃ p, e = .List xs p := by unfold vLst at h; split at h <;> cases h; exact ⟨_, rfl⟩
theorem vTup_inv {e : Expr} {xs : List Expr} (h : vTup e = some xs) : ∃ k p, e = .Tuple xs k p := by unfold vTup at h; split at h <;> cases h; exact ⟨_, _, rfl⟩
theorem vLc_inv {e el tx ix : Expr} {ifs : List Expr} {scope : Scope} (h : vLc e = some (el, tx, ix, ifs, scope)) : ∃ p, e = .ListComp el [⟨tx, ix, ifs, 0⟩] scope p := by unfold vLc at h; split at h <;> cases h; exact ⟨_, rfl⟩
end Wap
set_option Elab.async false
set_option linter.all false
set_option maxRecDepth 100000
set_option maxHeartbeats 1000000
/-! W13: operations, as the hand layer has them. -/
namespace Wap
open PySem PySem.Spec PyProof.Rows L2
section
variable {X : Cx}
theorem opA : OpR X (binaryOp .Add) (fun x y H Q => rP X.K .add [x, y] H Q) := ((op_add.or op_add_str).or op_cat).or op_catA
theorem opSub : OpR X (binaryOp .Sub) (fun x y H Q => rP X.K .sub [x, y] H Q) := op_sub
theorem opMulS : OpR X (binaryOp .Mult) rMulS := by
  intro pins s σ H x y v u Q I rx ry h
  obtain ⟨z, n, rfl, rfl, h0, h1, hl, q⟩ := h
  obtain ⟨t, rfl⟩ := rx
  obtain ⟨t', rfl⟩ := ry
  have hlen : (sOf z).length = 1 := by rw [length_sOf, hl]
  have hs : sizeLine = 16777216 := sizeLine_eq
  refine PySem.P.mul_str ?_ (fun hn _ => ?_) (fun hn _ => ?_) ?_
  · rw [decide_eq_false (by omega), decide_eq_false (by omega)]; rfl
  · rw [hlen]
    have : (1 : Int) ≤ (2 ^ 63 - 1) / n := (Int.le_ediv_iff_mul_le (by omega)).mpr (by omega)
    omega
  · rw [hlen]
    unfold Builtin.Str.tooLong
    exact decide_eq_false (by omega)
  · split
    · rename_i h3
      have : n.toNat = 0 := by omega
      rw [this] at q
      exact ⟨by decide, ⟨.str Str.empty, H, I.tok _, ⟨_, rfl⟩, q⟩⟩
    · rename_i h3
      split
      · rename_i h4
        rw [hlen] at h4
        have h5 : n = 1 := by simpa using h4
        subst h5
        have e : (List.replicate (1 : Int).toNat z).flatten = z := by simp
        rw [e] at q
        exact ⟨.str (sOf z), H, I, ⟨_, rfl⟩, q⟩
      · have e : (⟨(List.replicate n.toNat (sOf z).cps).foldl (· ++ ·) #[]⟩ : Str) = sOf (List.replicate n.toNat z).flatten := by
          have : ∀ (k : Nat) (acc : Array Nat), (List.replicate k (sOf z).cps).foldl (· ++ ·) acc = (acc.toList ++ (List.replicate k z).flatten).toArray := by
            intro k
            induction k with
            | zero => intro acc; simp
            | succ k ih => intro acc; rw [List.replicate_succ, List.foldl_cons, ih]; simp [sOf, List.replicate_succ]
          rw [this]
          simp [sOf]
        rw [e]
        refine ⟨?_, ⟨.str _, H, I.tok _, ⟨_, rfl⟩, q⟩⟩
        rw [length_sOf, hs]
        have : ∀ k : Nat, (List.replicate k z).flatten.length = k := by
          intro k
          induction k with
          | zero => rfl
          | succ k ih => rw [List.replicate_succ, List.flatten_cons, List.length_append, ih, hl]; omega
        rw [this]
        omega
theorem opMul : OpR X (binaryOp .Mult) (fun x y H Q => rP X.K .mul [x, y] H Q) := (op_mul.or opMulS).or op_rep
theorem opFd : OpR X (binaryOp .FloorDiv) (fun x y H Q => rP X.K .fdiv [x, y] H Q) := op_fdivN
theorem opMd : OpR X (binaryOp .Mod) (fun x y H Q => rP X.K .mod [x, y] H Q) := op_modN
theorem opPw : OpR X (binaryOp .Pow) (fun x y H Q => rP X.K .pow [x, y] H Q) := op_pow
theorem bin_ok {p : Pr} {op : Operator} (h : binO p = some op) : OpR X (binaryOp op) (fun x y H Q => rP X.K p [x, y] H Q) := by
  cases p <;> cases h <;> first | exact opA | exact opSub | exact opMul | exact opFd | exact opMd | exact opPw
theorem cmp_ok {p : Pr} {op : CmpOp} (hu : X.A.units + 64 < cLine) (h : cmpO p = some op) : OpR X (compareOp op) (fun x y H Q => rP X.K p [x, y] H Q) := by
  cases p <;> cases h
  · exact op_eq.or (op_eqD hu)
  · exact op_ne.or (op_neD hu)
  · exact op_lt
  · exact op_le
  · exact op_gt
  · exact op_ge
  · exact op_inS.or op_in_seq
  · exact op_notInS.or op_notIn_seq
theorem fn_ok {p : Pr} {x : Str} (hc : X.calm = true) (h : fnO p = some x) : ∃ id, bootBuiltins x = some (.builtin id) ∧ CallR X (.builtin id) (rP X.K p) ∧ x ∈ bNames := by
  cases p <;> cases h
  · exact ⟨"len", by decide +kernel, call_len_seq.or call_len_str, by decide +kernel⟩
  · exact ⟨"abs", by decide +kernel, call_abs, by decide +kernel⟩
  · exact ⟨"sum", by decide +kernel, cr_sum hc, by decide +kernel⟩
  · exact ⟨"all", by decide +kernel, cr_all hc, by decide +kernel⟩
  · exact ⟨"any", by decide +kernel, cr_any hc, by decide +kernel⟩
  · exact ⟨"min", by decide +kernel, call_min2 hc, by decide +kernel⟩
  · exact ⟨"max", by decide +kernel, call_max2 hc, by decide +kernel⟩
theorem ty_ok {p : Pr} {x : Str} (h : tyO p = some x) : ∃ T, bootBuiltins x = some (.type T) ∧ CallR X (.type T) (rP X.K p) ∧ x ∈ bNames := by
  cases p <;> cases h
  · exact ⟨"int", by decide +kernel, call_int1, by decide +kernel⟩
  · exact ⟨"list", by decide +kernel, call_list_of, by decide +kernel⟩
  · exact ⟨"tuple", by decide +kernel, call_tuple_of, by decide +kernel⟩
end
end Wap
set_option Elab.async false
set_option linter.all false
set_option maxRecDepth 100000
set_option maxHeartbeats 1000000
/-! W14: what is checked is read rightly. -/
namespace Wap
open PySem PySem.Spec PyProof.Rows L2
/-- a def that may be called by its name -/
def FnAt (X : Cx) (E : XK) (x : Str) (sp : Sp) : Prop := ∃ (CX : CXT) (k : Nat) (f : Addr) (fd : FuncData) (ps : List Str), FnOk X.prog X.w X.K X.mg X.base CX k f fd ps sp ∧ Room k X.A ∧ X.mg x = some (.ref f) ∧ PySem.W.keepIn X.K (.ref f) = true ∧ Binds X.K fd ps [] ∧ Passes CX X E ∧ (∀ o H s e s', CX o H s E0 e s' → False)
/-- the context, as the check sees it -/
structure XOk (X : Cx) (P : Nat → Sp) (E : XK) (c : Cc) : Prop where
  N : X.N = c.N
  nd : c.N.Nodup
  sc : X.env.scope = c.sc
  calm : X.calm = true
  kind : c.sc.kind = .function
  fn : c.blk = false → ∀ x, X.fn x = true
  un : X.A.units + 64 < cLine
  call : ∀ x f, c.fns.lookup x = some f → FnAt X E x (P f)
  cn : ∀ x d, c.cns.lookup x = some d → ∃ u, X.mg x = some u ∧ RelV d.v u
  bl : ∀ x ∈ bNames, X.mg x = none
section
variable {X : Cx} {P : Nat → Sp} {E : XK} {c : Cc}
theorem XOk.gl (o : XOk X P E c) {x : Str} (h : c.gl x = true) : Gl X x ∧ (x == ("__debug__" : Str)) = false := by
  unfold Cc.gl at h
  simp only [Bool.and_eq_true, decide_eq_true_eq] at h
  refine ⟨?_, by simpa using h.2⟩
  show X.env.scope.names.lookup x = _
  rw [o.sc]; exact h.1
theorem XOk.vis (o : XOk X P E c) {i : Nat} {x : Str} {pos : Pos} (h : c.vis i x = true) : PE X (.Name x pos) (tVar i) := by
  unfold Cc.vis at h
  simp only [Bool.and_eq_true, decide_eq_true_eq, Bool.or_eq_true, Bool.not_eq_true'] at h
  obtain ⟨⟨⟨h1, h2⟩, h3⟩, h4⟩ := h
  refine pe_var (by rw [o.N]; exact h1) ?_ h3 h4
  rw [o.sc]
  rcases h2 with (h | h) | h
  · exact .inl h
  · exact .inr (.inl h)
  · exact .inr (.inr h)
theorem XOk.asg (o : XOk X P E c) {i : Nat} {x : Str} (h : c.asg i x = true) : X.N[i]? = some x ∧ Loc X.env.scope x ∧ (X.fn x = true ∨ X.env.scope.names.lookup x = some .local) := by
  unfold Cc.asg at h
  simp only [Bool.and_eq_true, decide_eq_true_eq, Bool.or_eq_true, Bool.not_eq_true'] at h
  obtain ⟨h1, h2⟩ := h
  refine ⟨by rw [o.N]; exact h1, ?_, ?_⟩
  · rw [o.sc]
    rcases h2 with h | h
    · exact .inl h
    · exact .inr h.2
  · rcases h2 with h | h
    · right; rw [o.sc]; exact h
    · exact .inl (o.fn h.1 x)
theorem XOk.ndN (o : XOk X P E c) : X.N.Nodup := by rw [o.N]; exact o.nd
theorem XOk.tg1 (o : XOk X P E c) {i : Nat} {x : Str} {pos : Pos} (h : c.asg i x = true) : PG X (.Name x pos) (gName i) :=
  let ⟨h1, h2, h3⟩ := o.asg h
  pg_name o.ndN h1 h2 h3
theorem XOk.tgs (o : XOk X P E c) : ∀ {js : List Nat} {es : List Expr}, tgOk.go c js es = true → PGs X es (gNames js) ∧ (assignEach es X.env).length = js.length ∧ (assignEach es X.env).findIdx? (·.1) = none
  | [], [], _ => ⟨pgs_nil, rfl, rfl⟩
  | [], _ :: _, h => by simp [tgOk.go] at h
  | j :: js, [], h => by simp [tgOk.go] at h
  | j :: js, e :: es, h => by
    cases e with
    | Name x pos =>
      simp only [tgOk.go, Bool.and_eq_true] at h
      obtain ⟨i1, i2, i3⟩ := tgs o h.2
      refine ⟨pgs_cons (o.tg1 h.1) i1, ?_, ?_⟩
      · show ((false, assign (.Name x pos) X.env) :: assignEach es X.env).length = _
        rw [List.length_cons, i2, List.length_cons]
      · show ((false, assign (.Name x pos) X.env) :: assignEach es X.env).findIdx? (·.1) = none
        rw [List.findIdx?_cons]
        simp [i3]
    | _ => simp [tgOk.go] at h
theorem XOk.tg (o : XOk X P E c) {t : Tg} {e : Expr} (h : tgOk c t e = true) : PG X e (rdG X.K t) := by
  cases t with
  | one j => cases e <;> simp [tgOk] at h; exact o.tg1 h
  | tup js =>
    cases e with
    | Tuple es k pos =>
      have h : tgOk.go c js es = true := h
      obtain ⟨i1, i2, i3⟩ := o.tgs h
      exact ⟨fun pins s σ H v u Q I r h => by
        rcases h with h | h
        · exact (pg_tup o.calm i1 i2 i3).run pins s σ H v u Q I r h
        · exact (pg_unl o.calm i1 i2 i3).run pins s σ H v u Q I r h⟩
    | _ => simp [tgOk] at h
theorem XOk.inn (o : XOk X P E c) (s : Shared) (H : Hp) (scope : Scope) (C : Addr) (cl : List (Str × Addr)) (fp : List Addr) (hk : scope.kind = .function) : XOk (X.blk s H scope (compEnvC scope cl C X.env) fp) P E0 (c.inn scope) where
  N := o.N
  nd := o.nd
  sc := by show relS scope X.env.scope = relS scope c.sc; rw [o.sc]
  calm := o.calm
  kind := hk
  fn := fun z => by cases z
  un := o.un
  call := fun x f h => by
    obtain ⟨CX, k, fa, fd, ps, F, hr, hm, hkp, hb, hx, h0⟩ := o.call x f h
    exact ⟨CX, k, fa, fd, ps, F, hr, hm, hkp, hb, fun pins σ H s e s' _ h => h0 _ _ _ _ _ h, h0⟩
  cn := o.cn
  bl := o.bl
end
/-! ### side conditions by form -/
theorem star_ok {e : Expr} {es : List Expr} {env : Env} (h : notStar e = true) : starEach (e :: es) env = (false, eval e env) :: starEach es env := by
  cases e <;> first | rfl | cases h
theorem backTo_any : ∀ {es : List Expr} {env : Env} {pos : Pos}, es.all notStar = true → (backTo pos (starEach es env)).any (·.1) = false
  | [], _, _, _ => rfl
  | e :: es, env, pos, h => by
    simp only [List.all_cons, Bool.and_eq_true] at h
    rw [star_ok h.1]
    show (false || (backTo pos (starEach es env)).any (·.1)) = false
    rw [backTo_any h.2]; rfl
theorem plainIx {b : Expr} (h : notSl b = true) : PlainIx b := fun o i => by cases b <;> first | rfl | cases h
theorem set_ok {e : Expr} {env : Env} (h : notSet e = true) : ∀ x, foldedSetIterable e env x = pure x := fun x => by cases e <;> first | rfl | cases h
theorem mark_ok {op : CmpOp} {b : Expr} (h : notSet b = true) : behindInMarks op b = false := by cases b <;> first | rfl | cases h
theorem base_ok {x nm : Str} {p : Pos} {env : Env} : attributeBase (.Name x p) nm env (eval (.Name x p) env) = eval (.Name x p) env := rfl
/-- what the readings of a list of operands are -/
def PL (X : Cx) (P : Nat → Sp) (E : XK) : List Xp → List Expr → Prop
  | [], [] => True
  | a :: es, x :: xs => notStar x = true ∧ PE X x (rdX X.K P a E).1 ∧ PL X P E es xs
  | _, _ => False
section
variable {X : Cx} {P : Nat → Sp} {E : XK} {c : Cc}
theorem PL.pa : ∀ {es : List Xp} {xs : List Expr}, PL X P E es xs → PA X xs (rdA X.K P es E) ∧ xs.all notStar = true
  | [], [], _ => ⟨pa_nil, rfl⟩
  | [], _ :: _, h => h.elim
  | _ :: _, [], h => h.elim
  | a :: es, x :: xs, h => by
    obtain ⟨h1, h2, h3⟩ := h
    obtain ⟨i1, i2⟩ := h3.pa
    exact ⟨pa_cons h2 i1 (star_ok h1), by rw [List.all_cons, h1, i2]; rfl⟩
theorem PL.one {es : List Xp} {x : Expr} (h : PL X P E es [x]) : ∃ a, es = [a] ∧ PE X x (rdX X.K P a E).1 := by
  match es, h with
  | [a], h => exact ⟨a, rfl, h.2.1⟩
  | [], h => exact h.elim
  | _ :: _ :: _, h => exact h.2.2.elim
theorem PL.two {es : List Xp} {x y : Expr} (h : PL X P E es [x, y]) : ∃ a b, es = [a, b] ∧ PE X x (rdX X.K P a E).1 ∧ PE X y (rdX X.K P b E).1 := by
  match es, h with
  | [a, b], h => exact ⟨a, b, rfl, h.2.1, h.2.2.2.1⟩
  | [a], h => exact h.2.2.elim
  | [], h => exact h.elim
  | _ :: _ :: _ :: _, h => exact h.2.2.2.2.elim
theorem pt_plain {e : Expr} {t : TE} (h : PE X e t) (he : ∀ whole, isTrue e X.env whole = (do let v ← whole; standAt e.pos; holding [v] (truthy v))) : PT X e (tB t) := pt_val h he
theorem sl_ok : SlR X (rSl X.K) := (sl_list.or sl_tupA).or sl_str
theorem ix_ok : IxR X (rIx X.K) := (ix_list.or ix_tup).or ix_str
theorem nm_ok {x : Str} (h : x ∈ bNames) : x ≠ "__name__" := by
  rintro rfl
  revert h
  decide +kernel
theorem ty_boot (ty : Ty) : (tyN ty : Str) ∈ bNames ∧ bootBuiltins (tyN ty : Str) = some (.type (tyN ty)) := by
  cases ty <;> exact ⟨by decide +kernel, by decide +kernel⟩
/-- an operation of the text -/
theorem pr_ok (o : XOk X P E c) {p : Pr} {e : Expr} {es : List Xp} {xs : List Expr} (hs : subs c p e = some xs) (h : PL X P E es xs) : PE X e (rdX X.K P (.pr p es) E).1 ∧ PT X e (rdX X.K P (.pr p es) E).2 := by
  have plain : (∀ whole, isTrue e X.env whole = (do let v ← whole; standAt e.pos; holding [v] (truthy v))) → PE X e (rdX X.K P (.pr p es) E).1 → PE X e (rdX X.K P (.pr p es) E).1 ∧ PT X e (rdX X.K P (.pr p es) E).2 := fun he h => ⟨h, pt_plain h he⟩
  unfold subs at hs
  split at hs
  · -- a op b
    split at hs <;> cases hs
    rename_i hp
    obtain ⟨a, b, rfl, ha, hb⟩ := h.two
    exact plain (fun _ => rfl) (pe_op (bin_ok hp) ha hb)
  · -- a cmp b
    split at hs
    · rename_i hp
      cases hs
      obtain ⟨a, b, rfl, ha, hb⟩ := h.two
      exact ⟨pe_cmpR (cmp_ok o.un hp.1) ha hb (mark_ok hp.2), pt_cmpR (cmp_ok o.un hp.1) ha hb (mark_ok hp.2)⟩
    · split at hs
      · cases hs
        obtain ⟨a, rfl, ha⟩ := h.one
        exact ⟨pe_cmp (pc_isN ha), pt_cmp (pc_isN ha)⟩
      · cases hs
        obtain ⟨a, rfl, ha⟩ := h.one
        exact ⟨pe_cmp (pc_notN ha), pt_cmp (pc_notN ha)⟩
      · cases hs
  · split at hs <;> cases hs
    rename_i hp
    subst hp
    obtain ⟨a, rfl, ha⟩ := h.one
    exact plain (fun _ => rfl) (show PE X _ (tUn (rU fun i => .int (-i)) (rdX X.K P a E).1) from pe_un un_neg ha)
  · split at hs <;> cases hs
    rename_i hp
    subst hp
    obtain ⟨a, b, rfl, ha, hb⟩ := h.two
    exact plain (fun _ => rfl) (show PE X _ (tSl (rSl X.K) (rdX X.K P a E).1 (tPart (rdX X.K P b E).1) tNoPart) from pe_slice sl_ok ha (po_some hb) po_none)
  · split at hs <;> cases hs
    rename_i hp
    subst hp
    obtain ⟨a, b, rfl, ha, hb⟩ := h.two
    exact plain (fun _ => rfl) (show PE X _ (tSl (rSl X.K) (rdX X.K P a E).1 tNoPart (tPart (rdX X.K P b E).1)) from pe_slice sl_ok ha po_none (po_some hb))
  · split at hs <;> cases hs
    rename_i hp
    subst hp
    obtain ⟨a, rfl, ha⟩ := h.one
    exact plain (fun _ => rfl) (show PE X _ (tRevL X.K (rdX X.K P a E).1) from pe_revL ha)
  · split at hs <;> cases hs
    rename_i hp
    obtain ⟨rfl, hsl⟩ := hp
    obtain ⟨a, b, rfl, ha, hb⟩ := h.two
    exact plain (fun _ => rfl) (show PE X _ (tOp (rIx X.K) (rdX X.K P a E).1 (rdX X.K P b E).1) from pe_ix ix_ok ha hb (plainIx hsl))
  · split at hs
    · rename_i x pp args pos hp
      cases hs
      obtain ⟨hf, hg, hne⟩ := hp
      obtain ⟨g1, g2⟩ := o.gl hg
      obtain ⟨pa, ns⟩ := h.pa
      match xs, hne, pa, ns with
      | e :: r, _, pa, ns =>
        simp only [List.all_cons, Bool.and_eq_true] at ns
        refine plain (fun _ => rfl) (show PE X _ (tCB (rP X.K p) (rdA X.K P es E)) from ?_)
        rcases hf with hf | hf
        · obtain ⟨id, h1, h2, h3⟩ := fn_ok (X := X) o.calm hf
          exact pe_callB h2 g1 (o.bl _ h3) h1 pa (nm_ok h3) g2 (star_ok ns.1) (backTo_any ns.2)
        · obtain ⟨id, h1, h2, h3⟩ := ty_ok (X := X) hf
          exact pe_callTy h2 g1 (o.bl _ h3) h1 pa (nm_ok h3) g2 (star_ok ns.1) (backTo_any ns.2)
    · split at hs
      · split at hs <;> cases hs
        rename_i ty ax t tp _ hp
        obtain ⟨rfl, rfl, hg, ht⟩ := hp
        obtain ⟨g1, g2⟩ := o.gl hg
        obtain ⟨t1, t2⟩ := o.gl ht
        obtain ⟨a, rfl, ha⟩ := h.one
        have hn : notStar ax = true := h.1
        obtain ⟨ht1, ht2⟩ := ty_boot ty
        have hb : PE X (.Name (tyN ty : Str) tp) (tC (.ty (tyN ty))) := pe_bltn t1 (o.bl _ ht1) ht2 rfl (nm_ok ht1) t2
        refine plain (fun _ => rfl) (show PE X _ (tCB (rIsi X.K) (tCons (rdX X.K P a E).1 (tCons (tC (.ty (tyN ty))) tNil))) from ?_)
        exact pe_callB call_isi g1 (o.bl _ (by decide +kernel)) (by decide +kernel) (pa_cons ha (pa_cons hb pa_nil) (star_ok hn)) (by decide) g2 (star_ok hn) (backTo_any rfl)
      · cases hs
  · cases hs
end
end Wap
set_option Elab.async false
set_option linter.all false
set_option maxRecDepth 100000
set_option maxHeartbeats 1000000
/-! W15: what is checked is read rightly: expressions. -/
namespace Wap
open PySem PySem.Spec PyProof.Rows L2
/-- a comprehension, by its parts -/
def LcP (X : Cx) (e : Expr) (t : TE) : Prop := ∃ (elt tg iter : Expr) (ifs : List Expr) (scope : Scope) (pos : Pos) (wi : TI) (g : TG) (tt : TT) (te : TE) (own : List (Str × Nat)), e = .ListComp elt [⟨tg, iter, ifs, 0⟩] scope pos ∧ t = tLc wi g tt te (own.map (·.2)) ∧
  PI X tg iter wi ∧ BlkOk X.N X.env.scope scope own ∧ (∀ (s : Shared) (H : Hp) (C : Addr) (cl : List (Str × Addr)) (fp : List Addr), PG (X.blk s H scope (compEnvC scope cl C X.env) fp) tg g) ∧ (∀ (s : Shared) (H : Hp) (C : Addr) (cl : List (Str × Addr)) (fp : List Addr), PTs (X.blk s H scope (compEnvC scope cl C X.env) fp) ifs tt) ∧
  (∀ (s : Shared) (H : Hp) (C : Addr) (cl : List (Str × Addr)) (fp : List Addr), PE (X.blk s H scope (compEnvC scope cl C X.env) fp) elt te) ∧ ∀ x, foldedSetIterable iter X.env x = pure x
def isLc : Expr → Bool
  | .ListComp .. => true | _ => false
def OkE (X : Cx) (P : Nat → Sp) (E : XK) (x : Xp) (e : Expr) : Prop := PE X e (rdX X.K P x E).1 ∧ (tst x = true → PT X e (rdX X.K P x E).2) ∧ (isLc e = true → LcP X e (rdX X.K P x E).1)
def HE (P : Nat → Sp) (x : Xp) : Prop := ∀ (X : Cx) (E : XK) (c : Cc) (e : Expr), XOk X P E c → chkE c x e = true → OkE X P E x e
def HA (P : Nat → Sp) (xs : List Xp) : Prop := ∀ (X : Cx) (E : XK) (c : Cc) (es : List Expr), XOk X P E c → chkA c xs es = true → PL X P E xs es
def HC (P : Nat → Sp) (xs : List Xp) : Prop := ∀ (X : Cx) (E : XK) (c : Cc) (es : List Expr), XOk X P E c → chkA c xs es = true → xs.all tst = true → xs.length < 2 → PTs X es (rdC X.K P xs E)
section
variable {X : Cx} {P : Nat → Sp} {E : XK} {c : Cc}
theorem okE {x : Xp} {e : Expr} (h : PE X e (rdX X.K P x E).1) (ht : PT X e (rdX X.K P x E).2) (hl : isLc e = false) : OkE X P E x e := ⟨h, fun _ => ht, fun z => by rw [hl] at z; cases z⟩
theorem he_c (d : Cn) : HE P (.c d) := fun X E c e o h => by
  simp only [chkE] at h
  split at h
  rotate_left
  · cases h
  rename_i k hk
  obtain ⟨j, pos, rfl⟩ := vCon_inv hk
  have h : cnOf k = some d := by simpa using h
  have key : PE X (.Constant k j pos) (tC d.v) := by
    cases k <;> simp only [cnOf, Option.some.injEq, reduceCtorEq] at h <;> subst h <;> first | exact pe_int | exact pe_bl | exact pe_non | skip
    rename_i s
    have : (Cn.str s.cps.toList).v = V.str s := by show V.str (sOf s.cps.toList) = _; simp [sOf]
    rw [this]; exact pe_str
  exact okE key (pt_plain key fun _ => rfl) rfl
theorem he_g (x : Str) (d : Cn) : HE P (.g x d) := fun X E c e o h => by
  simp only [chkE] at h
  split at h
  rotate_left
  · cases h
  rename_i y hk
  obtain ⟨pos, rfl⟩ := vNam_inv hk
  simp only [Bool.and_eq_true, decide_eq_true_eq] at h
  obtain ⟨⟨rfl, hg⟩, hc⟩ := h
  obtain ⟨g1, g2⟩ := o.gl hg
  obtain ⟨u, hm, r⟩ := o.cn _ _ hc
  have key : PE X (.Name x pos) (tC d.v) := pe_glob g1 hm r g2
  exact okE key (pt_plain key fun _ => rfl) rfl
theorem he_v (i : Nat) : HE P (.v i) := fun X E c e o h => by
  simp only [chkE] at h
  split at h
  rotate_left
  · cases h
  rename_i y hk
  obtain ⟨pos, rfl⟩ := vNam_inv hk
  have key : PE X (.Name y pos) (tVar i) := o.vis h
  exact okE key (pt_plain key fun _ => rfl) rfl
theorem he_mv (i : Nat) : HE P (.mv i) := fun X E c e o h => by
  simp only [chkE] at h
  split at h
  rotate_left
  · cases h
  rename_i y hk
  obtain ⟨pos, rfl⟩ := vNam_inv hk
  have key : PE X (.Name y pos) (tVar i) := o.vis h
  exact okE key (pt_plain key fun _ => rfl) rfl
theorem he_rf (i : Nat) : HE P (.rf i) := fun X E c e o h => by
  simp only [chkE] at h
  split at h
  rotate_left
  · cases h
  rename_i y hk
  obtain ⟨pos, rfl⟩ := vNam_inv hk
  have key : PE X (.Name y pos) (tVar i) := o.vis h
  exact okE key (pt_plain key fun _ => rfl) rfl
theorem subs_lc {p : Pr} {e : Expr} {xs : List Expr} (h : subs c p e = some xs) : isLc e = false := by
  cases e <;> first | rfl | (simp [subs] at h)
theorem he_pr {p : Pr} {es : List Xp} (ha : HA P es) : HE P (.pr p es) := fun X E c e o h => by
  simp only [chkE] at h
  split at h
  · rename_i xs hs
    obtain ⟨h1, h2⟩ := pr_ok o hs (ha X E c xs o h)
    exact okE h1 h2 (subs_lc hs)
  · cases h
theorem pw_of {op : BoolOp} {vs : List Expr} {pos : Pos} {t : TT} (h : PT X (.BoolOp op vs pos) t) : PW X (.BoolOp op vs pos) t := ⟨fun wh pins s σ H Q I q => h.run pins s σ H Q I q⟩
theorem he_and {a b : Xp} (ha : HE P a) (hb : HE P b) : HE P (.and a b) := fun X E c e o h => by
  simp only [chkE] at h
  split at h
  · rename_i x y pos hk
    have := vAnd_inv hk
    subst this
    rw [Bool.and_eq_true] at h
    obtain ⟨a1, a2, _⟩ := ha X E c x o h.1
    obtain ⟨b1, b2, _⟩ := hb X E c y o h.2
    refine ⟨pe_and a1 (pe_one b1), fun z => ?_, fun z => by cases z⟩
    simp only [tst, Bool.and_eq_true] at z
    exact (pw_and (a2 z.1) (pw_and1 (b2 z.2))).pt
  · rename_i x y r pos _ hk
    have := vAnd_inv hk
    subst this
    rw [Bool.and_eq_true] at h
    obtain ⟨a1, a2, _⟩ := ha X E c x o h.1
    obtain ⟨b1, b2, _⟩ := hb X E c _ o h.2
    refine ⟨pe_and a1 b1, fun z => ?_, fun z => by cases z⟩
    simp only [tst, Bool.and_eq_true] at z
    exact (pw_and (a2 z.1) (pw_of (b2 z.2))).pt
  · cases h
theorem he_or {a b : Xp} (ha : HE P a) (hb : HE P b) : HE P (.or a b) := fun X E c e o h => by
  simp only [chkE] at h
  split at h
  · rename_i x y pos hk
    have := vOr_inv hk
    subst this
    rw [Bool.and_eq_true] at h
    obtain ⟨a1, a2, _⟩ := ha X E c x o h.1
    obtain ⟨b1, b2, _⟩ := hb X E c y o h.2
    refine ⟨pe_or a1 (pe_one b1), fun z => ?_, fun z => by cases z⟩
    simp only [tst, Bool.and_eq_true] at z
    exact (pw_or (a2 z.1) (pw_or1 (b2 z.2))).pt
  · rename_i x y r pos _ hk
    have := vOr_inv hk
    subst this
    rw [Bool.and_eq_true] at h
    obtain ⟨a1, a2, _⟩ := ha X E c x o h.1
    obtain ⟨b1, b2, _⟩ := hb X E c _ o h.2
    refine ⟨pe_or a1 b1, fun z => ?_, fun z => by cases z⟩
    simp only [tst, Bool.and_eq_true] at z
    exact (pw_or (a2 z.1) (pw_of (b2 z.2))).pt
  · cases h
theorem he_not {a : Xp} (ha : HE P a) : HE P (.not a) := fun X E c e o h => by
  simp only [chkE] at h
  split at h
  · rename_i x hk
    obtain ⟨pos, rfl⟩ := vNot_inv hk
    obtain ⟨a1, a2, _⟩ := ha X E c x o h
    exact ⟨pe_not a1, fun z => pt_not (a2 z), fun z => by cases z⟩
  · cases h
theorem he_fz {a : Xp} (ha : HE P a) : HE P (.fz a) := fun X E c e o h => by
  simp only [chkE] at h
  obtain ⟨a1, _, a3⟩ := ha X E c e o h
  refine ⟨a1, fun z => ?_, a3⟩
  cases z
theorem he_chn {p q : Pr} {a b d : Xp} (ha : HE P a) (hb : HE P b) (hd : HE P d) : HE P (.chn p q a b d) := fun X E c e o h => by
  simp only [chkE] at h
  split at h
  rotate_left
  · cases h
  rename_i x op y op' z hk
  obtain ⟨pos, rfl⟩ := vChn_inv hk
  simp only [Bool.and_eq_true, decide_eq_true_eq] at h
  obtain ⟨⟨⟨⟨⟨h1, h2⟩, h3⟩, h4⟩, h5⟩, h6⟩ := h
  have a1 := (ha X E c x o h4).1
  have b1 := (hb X E c y o h5).1
  have d1 := (hd X E c z o h6).1
  have hm : lastMarks [op, op'] [y, z] = false := mark_ok h3
  exact okE (pe_chain (cmp_ok o.un h1) (cmp_ok o.un h2) a1 b1 d1 hm) (pt_chain (cmp_ok o.un h1) (cmp_ok o.un h2) a1 b1 d1 hm) rfl
theorem he_slc {a b d : Xp} (ha : HE P a) (hb : HE P b) (hd : HE P d) : HE P (.slc a b d) := fun X E c e o h => by
  simp only [chkE] at h
  split at h
  rotate_left
  · cases h
  rename_i x y z hk
  obtain ⟨p2, pos, rfl⟩ := vSlc_inv hk
  simp only [Bool.and_eq_true] at h
  have key := pe_slice (pos := pos) (p2 := p2) sl_ok (ha X E c x o h.1.1).1 (po_some (hb X E c y o h.1.2).1) (po_some (hd X E c z o h.2).1)
  exact okE key (pt_plain key fun _ => rfl) rfl
theorem he_ite {t a b : Xp} (ht : HE P t) (ha : HE P a) (hb : HE P b) : HE P (.ite t a b) := fun X E c e o h => by
  simp only [chkE] at h
  split at h
  rotate_left
  · cases h
  rename_i x y z hk
  obtain ⟨pos, rfl⟩ := vIf_inv hk
  simp only [Bool.and_eq_true] at h
  exact ⟨pe_ifExp ((ht X E c x o h.1.1.2).2.1 h.1.1.1) (ha X E c y o h.1.2).1 (hb X E c z o h.2).1, fun z => (by cases z), fun z => by cases z⟩
theorem he_call {f : Nat} {es : List Xp} (ha : HA P es) : HE P (.call f es) := fun X E c e o h => by
  simp only [chkE] at h
  split at h
  · rename_i x xs hk
    obtain ⟨p, pos, rfl⟩ := vCall_inv hk
    simp only [Bool.and_eq_true, decide_eq_true_eq] at h
    obtain ⟨⟨h1, h2⟩, h3⟩ := h
    obtain ⟨g1, g2⟩ := o.gl h2
    obtain ⟨CX, k, fa, fd, ps, F, hr, hm, hkp, hb, hx, h0⟩ := o.call x f h1
    obtain ⟨pa, ns⟩ := (ha X E c xs o h3).pa
    have key : PE X (.Call (.Name x p) xs [] pos) (tCall (P f) [] E (rdA X.K P es E)) := by
      match xs, es, pa, ns, h3 with
      | [], [], pa, ns, h3 => exact pe_call0 F hr g1 hm hkp hb .nil hx g2
      | [], _ :: _, pa, ns, h3 => simp [chkA] at h3
      | e :: r, es, pa, ns, _ =>
        simp only [List.all_cons, Bool.and_eq_true] at ns
        exact pe_call F hr g1 hm hkp hb .nil hx pa g2 (star_ok ns.1) (backTo_any ns.2)
    exact okE key (pt_plain key fun _ => rfl) rfl
  · cases h
theorem few_ok : ∀ {es : List Expr} {env : Env} {pos : Pos}, es.all notStar = true → (backTo pos (starEach es env)).all (fun x => !x.1) = true
  | [], _, _, _ => rfl
  | e :: es, env, pos, h => by
    simp only [List.all_cons, Bool.and_eq_true] at h
    rw [star_ok h.1]
    show (true && (backTo pos (starEach es env)).all (fun x => !x.1)) = true
    rw [few_ok h.2]; rfl
theorem he_mut {i : Nat} {m : Mu} {es : List Xp} (ha : HA P es) : HE P (.mut i m es) := fun X E c e o h => by
  simp only [chkE] at h
  split at h
  · rename_i x nm apos xs cpos hk
    obtain ⟨p, rfl⟩ := vMut_inv hk
    simp only [Bool.and_eq_true, decide_eq_true_eq] at h
    obtain ⟨⟨⟨⟨h1, h2⟩, hlen⟩, h3⟩, h4⟩ := h
    obtain ⟨pa, ns⟩ := (ha X E c xs o h4).pa
    have hv : PE X (.Name x p) (tVar i) := o.vis h1
    have hline : (apos.endLine == cpos.line) = true := by simpa using h2
    have key : PE X (.Call (.Attribute (.Name x p) nm apos) xs [] cpos) (tBM X.K "list" (rMu m) (tVar i) (rdA X.K P es E)) := by
      have m0 : ∀ {id : String} {name : Str}, xs = [] → Slot "list" name id → typeOf (.builtin id) = pure (.type "method_descriptor") → MtR X id (rMu m) → nm = name → PE X (.Call (.Attribute (.Name x p) nm apos) xs [] cpos) (tBM X.K "list" (rMu m) (tVar i) (rdA X.K P es E)) := fun hx sl ty hm hnm => by
        subst hx hnm
        match es, h4 with
        | [], _ => exact pe_bm0 PySem.F.plainAttrs_list sl ty hm hv rfl hline
        | _ :: _, h4 => simp [chkA] at h4
      have m1 : ∀ {id : String} {name : Str}, xs ≠ [] → Slot "list" name id → typeOf (.builtin id) = pure (.type "method_descriptor") → MtR X id (rMu m) → nm = name → PE X (.Call (.Attribute (.Name x p) nm apos) xs [] cpos) (tBM X.K "list" (rMu m) (tVar i) (rdA X.K P es E)) := fun {id name} hx sl ty hm hnm => by
        subst hnm
        match xs, hx, pa, ns, hlen with
        | e :: r, _, pa, ns, hlen =>
          have ns' := ns
          simp only [List.all_cons, Bool.and_eq_true] at ns
          refine pe_bm PySem.F.plainAttrs_list sl ty hm hv pa rfl ?_ hline (star_ok ns.1) (backTo_any ns.2)
          rw [few_ok ns']
          simp only [List.length_cons] at hlen
          show (true && true && decide (r.length + 1 + 0 + 0 < 30)) = true
          rw [Bool.true_and, Bool.true_and, decide_eq_true_eq]
          omega
      cases m with
      | append =>
        have h3 : nm = "append" := by simpa [muOk] using h3
        by_cases hx : xs = []
        · subst hx
          match es, h4 with
          | [], _ => exact ⟨fun pins s σ H Q I q => by obtain ⟨v, _, _, l, z, y, _, e, _⟩ := q; cases e⟩
          | _ :: _, h4 => simp [chkA] at h4
        · exact m1 hx PySem.F.slot_list_append PySem.F.type_list_append mt_append h3
      | pop =>
        have h3 : nm = "pop" ∧ xs = [] := by simpa [muOk] using h3
        exact m0 h3.2 PySem.F.slot_list_pop PySem.F.type_list_pop mt_pop h3.1
      | popAt =>
        have h3 : nm = "pop" ∧ xs ≠ [] := by simpa [muOk] using h3
        exact m1 h3.2 PySem.F.slot_list_pop PySem.F.type_list_pop mt_popAt h3.1
      | reverse =>
        have h3 : nm = "reverse" ∧ xs = [] := by simpa [muOk] using h3
        exact m0 h3.2 PySem.F.slot_list_reverse PySem.F.type_list_reverse mt_reverse h3.1
      | insert => simp [muOk] at h3
      | clear => simp [muOk] at h3
    exact okE key (pt_plain key fun _ => rfl) rfl
  · cases h
theorem he_lst {es : List Xp} (ha : HA P es) : HE P (.lst es) := fun X E c e o h => by
  simp only [chkE] at h
  split at h
  rotate_left
  · cases h
  rename_i xs hk
  obtain ⟨pos, rfl⟩ := vLst_inv hk
  have key := pe_lst (pos := pos) (ha X E c xs o h).pa.1
  exact okE key (pt_plain key fun _ => rfl) rfl
theorem he_tup {es : List Xp} (ha : HA P es) : HE P (.tup es) := fun X E c e o h => by
  simp only [chkE] at h
  split at h
  rotate_left
  · cases h
  rename_i xs hk
  obtain ⟨k, pos, rfl⟩ := vTup_inv hk
  have key := pe_tup (pos := pos) (x1 := k) (ha X E c xs o h).pa.1
  exact okE key (pt_plain key fun _ => rfl) rfl
theorem pi_seq {tg e : Expr} {te : TE} (he : PE X e te) : PI X tg e (iSeq X.K te) := ⟨fun pins s σ H R I h => by
  rcases h with (h | h) | h
  · exact (pi_list he).run pins s σ H R I h
  · exact (pi_tup he).run pins s σ H R I h
  · exact (pi_str he).run pins s σ H R I h⟩
theorem hi_ok {its : List Xp} (ha : HA P its) (o : XOk X P E c) {k : ItK} {e tg : Expr} (h : chkI c k its e = true) : PI X tg e (rdI X.K k (rdA X.K P its E) (rdH X.K P its E)) ∧ ∀ x, foldedSetIterable e X.env x = pure x := by
  unfold chkI at h
  split at h
  rotate_left
  · cases h
  rename_i xs hx
  cases k with
  | rng1 =>
    simp only [itX] at hx
    split at hx
    · rename_i x a hk
      split at hx <;> cases hx
      rename_i hg
      obtain ⟨p, pos, rfl⟩ := vCall_inv hk
      obtain ⟨rfl, h2⟩ := hg
      obtain ⟨pa, ns⟩ := (ha X E c [a] o h).pa
      simp only [List.all_cons, Bool.and_eq_true] at ns
      exact ⟨pi_range1 (o.gl h2).1 (o.bl _ (by decide +kernel)) pa (star_ok ns.1), set_ok rfl⟩
    · cases hx
  | rng2 =>
    simp only [itX] at hx
    split at hx
    · rename_i x a b hk
      split at hx <;> cases hx
      rename_i hg
      obtain ⟨p, pos, rfl⟩ := vCall_inv hk
      obtain ⟨rfl, h2⟩ := hg
      obtain ⟨pa, ns⟩ := (ha X E c [a, b] o h).pa
      simp only [List.all_cons, Bool.and_eq_true] at ns
      exact ⟨pi_range2 (o.gl h2).1 (o.bl _ (by decide +kernel)) pa (by rw [star_ok ns.1, star_ok ns.2.1]; rfl) (by rw [star_ok ns.2.1]; rfl), set_ok rfl⟩
    · cases hx
  | seq =>
    simp only [itX] at hx
    split at hx <;> cases hx
    rename_i hns
    obtain ⟨a, rfl, h1⟩ := (ha X E c [e] o h).one
    exact ⟨pi_seq h1, set_ok hns⟩
theorem own_ok {N : List Str} : ∀ {vs : List Nat} {own : List (Str × Nat)}, vs.mapM (fun j => (N[j]?).map fun x => (x, j)) = some own → own.map (·.2) = vs
  | [], own, h => by simp at h; subst h; rfl
  | j :: vs, own, h => by
    rw [List.mapM_cons] at h
    cases e1 : N[j]? with
    | none => rw [e1] at h; cases h
    | some x =>
      rw [e1] at h
      cases e2 : vs.mapM (fun j => (N[j]?).map fun x => (x, j)) with
      | none => rw [e2] at h; cases h
      | some r =>
        rw [e2] at h
        cases h
        rw [List.map_cons, own_ok e2]
theorem he_comp {tg : Tg} {k : ItK} {its cond : List Xp} {elt : Xp} {vs : List Nat} (hi : HA P its) (hc : HC P cond) (he : HE P elt) : HE P (.comp tg k its cond elt vs) := fun X E c e o h => by
  simp only [chkE] at h
  split at h
  · rename_i el tx ix ifs scope hk
    obtain ⟨pos, rfl⟩ := vLc_inv hk
    split at h
    rotate_left
    · cases h
    rename_i own hown
    simp only [Bool.and_eq_true, decide_eq_true_eq] at h
    obtain ⟨⟨⟨⟨⟨⟨h1, h2⟩, h3⟩, h4⟩, h5⟩, h6⟩, h7⟩ := h
    have blk := blkOk_by h1
    obtain ⟨pi, fs⟩ := hi_ok (tg := tx) hi o h2
    have ox := fun s H C cl fp => o.inn s H scope C cl fp blk.kind
    have blk' : BlkOk X.N X.env.scope scope own := by rw [o.N, o.sc]; exact blk
    have hg : ∀ (s : Shared) (H : Hp) (C : Addr) (cl : List (Str × Addr)) (fp : List Addr), PG (X.blk s H scope (compEnvC scope cl C X.env) fp) tx (rdG X.K tg) := fun s H C cl fp => (ox s H C cl fp).tg h3
    have ht : ∀ (s : Shared) (H : Hp) (C : Addr) (cl : List (Str × Addr)) (fp : List Addr), PTs (X.blk s H scope (compEnvC scope cl C X.env) fp) ifs (rdC X.K P cond E0) := fun s H C cl fp => hc _ _ _ _ (ox s H C cl fp) h4 h5 h6
    have hel : ∀ (s : Shared) (H : Hp) (C : Addr) (cl : List (Str × Addr)) (fp : List Addr), PE (X.blk s H scope (compEnvC scope cl C X.env) fp) el (rdX X.K P elt E0).1 := fun s H C cl fp => (he _ _ _ _ (ox s H C cl fp) h7).1
    have hvs := own_ok hown
    have key : PE X (.ListComp el [⟨tx, ix, ifs, 0⟩] scope pos) (tLc (rdI X.K k (rdA X.K P its E) (rdH X.K P its E)) (rdG X.K tg) (rdC X.K P cond E0) (rdX X.K P elt E0).1 vs) := by
      rw [← hvs]
      exact pe_lc o.calm o.ndN pi blk' hg ht hel fs
    exact ⟨key, fun _ => pt_plain key fun _ => rfl, fun _ => ⟨el, tx, ix, ifs, scope, pos, _, _, _, _, own, rfl, by rw [hvs]; rfl, pi, blk', hg, ht, hel, fs⟩⟩
  · cases h
theorem ha_nil : HA P [] := fun X E c es o h => by
  cases es with
  | nil => trivial
  | cons _ _ => simp [chkA] at h
theorem ha_cons {a : Xp} {xs : List Xp} (h1 : HE P a) (h2 : HA P xs) : HA P (a :: xs) := fun X E c es o h => by
  cases es with
  | nil => simp [chkA] at h
  | cons e es =>
    simp only [chkA, Bool.and_eq_true] at h
    exact ⟨h.1.1, (h1 X E c e o h.1.2).1, h2 X E c es o h.2⟩
theorem hc_nil : HC P [] := fun X E c es o h _ _ => by
  cases es with
  | nil => exact pts_nil
  | cons _ _ => simp [chkA] at h
theorem hc_one {a : Xp} (h1 : HE P a) : HC P [a] := fun X E c es o h ht _ => by
  match es, h with
  | [e], h =>
    simp only [chkA, Bool.and_eq_true] at h
    exact pts_one ((h1 X E c e o h.1.2).2.1 (by simpa using ht))
  | [], h => simp [chkA] at h
  | _ :: _ :: _, h => simp [chkA] at h
theorem hc_more {a b : Xp} {xs : List Xp} : HC P (a :: b :: xs) := fun X E c es o h _ hl => by simp at hl; omega
mutual
theorem chkE_ok (P : Nat → Sp) : ∀ x : Xp, HE P x
  | .c d => he_c d
  | .g x d => he_g x d
  | .v i => he_v i
  | .mv i => he_mv i
  | .rf i => he_rf i
  | .pr _ es => he_pr (chkA_ok P es)
  | .and a b => he_and (chkE_ok P a) (chkE_ok P b)
  | .or a b => he_or (chkE_ok P a) (chkE_ok P b)
  | .not a => he_not (chkE_ok P a)
  | .fz a => he_fz (chkE_ok P a)
  | .chn _ _ a b d => he_chn (chkE_ok P a) (chkE_ok P b) (chkE_ok P d)
  | .slc a b d => he_slc (chkE_ok P a) (chkE_ok P b) (chkE_ok P d)
  | .ite t a b => he_ite (chkE_ok P t) (chkE_ok P a) (chkE_ok P b)
  | .call _ es => he_call (chkA_ok P es)
  | .mut _ _ es => he_mut (chkA_ok P es)
  | .lst es => he_lst (chkA_ok P es)
  | .tup es => he_tup (chkA_ok P es)
  | .comp _ _ its cond elt _ => he_comp (chkA_ok P its) (chkC_ok P cond) (chkE_ok P elt)
theorem chkA_ok (P : Nat → Sp) : ∀ xs : List Xp, HA P xs
  | [] => ha_nil
  | a :: xs => ha_cons (chkE_ok P a) (chkA_ok P xs)
theorem chkC_ok (P : Nat → Sp) : ∀ xs : List Xp, HC P xs
  | [] => hc_nil
  | [a] => hc_one (chkE_ok P a)
  | _ :: _ :: _ => hc_more
end
end
end Wap
set_option Elab.async false
set_option linter.all false
set_option maxRecDepth 100000
set_option maxHeartbeats 1000000
/-! W16: statements. -/
namespace Wap
open PySem PySem.Spec PyProof.Rows L2
def vAsg1 : Stmt → Option (Str × Pos × Expr × Pos)
  | .Assign [.Name x p] e pos => some (x, p, e, pos) | _ => none
def vAsgT : Stmt → Option (List Expr × Expr)
  | .Assign [.Tuple ts _ _] e _ => some (ts, e) | _ => none
def vExs : Stmt → Option Expr
  | .Expr e _ => some e | _ => none
def vAug : Stmt → Option (Str × Expr)
  | .AugAssign (.Name x _) .Add e _ => some (x, e) | _ => none
def vIfS : Stmt → Option (Expr × List Stmt × List Stmt)
  | .If c a b _ => some (c, a, b) | _ => none
def vFor : Stmt → Option (Expr × Expr × List Stmt)
  | .For tg it body [] _ => some (tg, it, body) | _ => none
def vWhl : Stmt → Option (Expr × List Stmt)
  | .While c body [] _ => some (c, body) | _ => none
def vRet : Stmt → Option (Option Expr)
  | .Return e _ => some e | _ => none
def vRse : Stmt → Option Str
  | .Raise (some (.Call (.Name x _) [] [] _)) none _ => some x | _ => none
def vBrk : Stmt → Bool
  | .Break _ => true | _ => false
def vCnt : Stmt → Bool
  | .Continue _ => true | _ => false
def vPas : Stmt → Bool
  | .Pass _ => true | .Expr (.Constant (.str _) _ _) _ => true | _ => false
theorem vAsg1_inv {s : Stmt} {x : Str} {p pos : Pos} {e : Expr} (h : vAsg1 s = some (x, p, e, pos)) : s = .Assign [.Name x p] e pos := by unfold vAsg1 at h; split at h <;> cases h; rfl
theorem vAsgT_inv {s : Stmt} {ts : List Expr} {e : Expr} (h : vAsgT s = some (ts, e)) : ∃ k p pos, s = .Assign [.Tuple ts k p] e pos := by unfold vAsgT at h; split at h <;> cases h; exact ⟨_, _, _, rfl⟩
theorem vExs_inv {s : Stmt} {e : Expr} (h : vExs s = some e) : ∃ p, s = .Expr e p := by unfold vExs at h; split at h <;> cases h; exact ⟨_, rfl⟩
theorem vAug_inv {s : Stmt} {x : Str} {e : Expr} (h : vAug s = some (x, e)) : ∃ p pos, s = .AugAssign (.Name x p) .Add e pos := by unfold vAug at h; split at h <;> cases h; exact ⟨_, _, rfl⟩
theorem vIfS_inv {s : Stmt} {c : Expr} {a b : List Stmt} (h : vIfS s = some (c, a, b)) : ∃ p, s = .If c a b p := by unfold vIfS at h; split at h <;> cases h; exact ⟨_, rfl⟩
theorem vFor_inv {s : Stmt} {tg it : Expr} {b : List Stmt} (h : vFor s = some (tg, it, b)) : ∃ p, s = .For tg it b [] p := by unfold vFor at h; split at h <;> cases h; exact ⟨_, rfl⟩
theorem vWhl_inv {s : Stmt} {c : Expr} {b : List Stmt} (h : vWhl s = some (c, b)) : ∃ p, s = .While c b [] p := by unfold vWhl at h; split at h <;> cases h; exact ⟨_, rfl⟩
theorem vRet_inv {s : Stmt} {e : Option Expr} (h : vRet s = some e) : ∃ p, s = .Return e p := by unfold vRet at h; split at h <;> cases h; exact ⟨_, rfl⟩
theorem vRse_inv {s : Stmt} {x : Str} (h : vRse s = some x) : ∃ p q r, s = .Raise (some (.Call (.Name x p) [] [] q)) none r := by unfold vRse at h; split at h <;> cases h; exact ⟨_, _, _, rfl⟩
mutual
def chkS (c : Cc) : Sm → Stmt → Bool
  | .asg i e, s => (match vAsg1 s with
    | some (x, p, v, _) => c.asg i x && chkE c e v && (notComp v || isLc v)
    | none => false)
  | .unp js e, s => (match vAsgT s with
    | some (ts, v) => tgOk.go c js ts && chkE c e v && notTup v
    | none => false)
  | .exs e, s => (match vExs s with
    | some v => chkE c e v && notComp v
    | none => false)
  | .aug i e, s => (match vAug s with
    | some (x, v) => c.asg i x && chkE c e v
    | none => false)
  | .ife t a b, s => (match vIfS s with
    | some (v, xa, xb) => tst t && chkE c t v && chkSs c a xa && chkSs c b xb
    | none => false)
  | .fors tg k its body, s => (match vFor s with
    | some (tx, ix, xb) => tgOk c tg tx && chkI c k its ix && chkSs c body xb
    | none => false)
  | .whl t body, s => (match vWhl s with
    | some (v, xb) => tst t && chkE c t v && chkSs c body xb
    | none => false)
  | .ret e, s => (match vRet s with
    | some (some v) => chkE c e v
    | _ => false)
  | .retN, s => (match vRet s with
    | some none => true
    | _ => false)
  | .rse w, s => (match vRse s with
    | some x => decide (c.rss.lookup x = some w) && c.gl x
    | none => false)
  | .brk, s => vBrk s
  | .cnt, s => vCnt s
  | .pas, s => vPas s
  | .kil _, _ => false
termination_by structural s => s
def chkSs (c : Cc) : List Sm → List Stmt → Bool
  | .kil _ :: ss, xs => chkSs c ss xs
  | [], [] => true
  | s :: ss, x :: xs => chkS c s x && chkSs c ss xs
  | _, _ => false
termination_by structural ss => ss
end
/-- the context of a body -/
structure XOkS (X : Cx) (W : Wd) (P : Nat → Sp) (E : XK) (c : Cc) : Prop extends XOk X P E c where
  blk : c.blk = false
  po : PassesOwn (model X.prog X.w) X.A X.env X.xe
  rs : ∀ x w, c.rss.lookup x = some w → Gl X x → ∀ p q r, PS X (.Raise (some (.Call (.Name x p) [] [] q)) none r) (rdS X.K W P E (.rse w))
def HS (W : Wd) (P : Nat → Sp) (s : Sm) : Prop := ∀ (X : Cx) (E : XK) (c : Cc) (x : Stmt), XOkS X W P E c → chkS c s x = true → PS X x (rdS X.K W P E s)
def HSs (W : Wd) (P : Nat → Sp) (s : List Sm) : Prop := ∀ (X : Cx) (E : XK) (c : Cc) (x : List Stmt), XOkS X W P E c → chkSs c s x = true → PSs X x (rdSs X.K W P E s)
section
variable {X : Cx} {W : Wd} {P : Nat → Sp} {E : XK} {c : Cc}
theorem sw_plain {e : Expr} {t : Option Expr} {l : Nat} {env : Env} (h : notComp e = true) : swapsWith e t l env = pure false := by
  cases e <;> first | rfl | cases h
theorem sw_tup {e : Expr} {ts : List Expr} {k : Nat} {p : Pos} {l : Nat} {env : Env} : swapsWithSole [.Tuple ts k p] e l env = pure false := by
  show swapsWith e (some (.Tuple ts k p)) l env = pure false
  cases e <;> rfl
theorem st_tup {e : Expr} {ts : List Expr} {k : Nat} {p : Pos} {env : Env} (h : notTup e = true) : swappedStores [.Tuple ts k p] e env = pure none := by
  cases e <;> first | rfl | cases h
theorem hs_asg {i : Nat} {e : Xp} : HS W P (.asg i e) := fun X E c s o h => by
  simp only [chkS] at h
  split at h
  rotate_left
  · cases h
  rename_i x p v pos hk
  have := vAsg1_inv hk
  subst this
  simp only [Bool.and_eq_true] at h
  obtain ⟨⟨h1, h2⟩, h3⟩ := h
  obtain ⟨i1, i2, i3⟩ := o.asg h1
  obtain ⟨e1, _, e3⟩ := chkE_ok P e X E c v o.toXOk h2
  by_cases hc : notComp v = true
  · exact ps_set o.ndN i1 i2 e1 (sw_plain hc) i3
  · have hl : isLc v = true := by
      rw [Bool.or_eq_true] at h3
      exact h3.resolve_left hc
    obtain ⟨elt, tg, iter, ifs, scope, lp, wi, g, tt, te, own, rfl, et, pi, blk, hg, ht, he, fs⟩ := e3 hl
    by_cases hy : X.env.scope.names.lookup x = some .local ∧ (p.line == lp.line) = true ∧ (scope.names.any fun (n, k) => n == x && (k == .local || k == .cell)) = false
    · have := ps_setLc (spos := pos) o.calm o.ndN i1 hy.1 (sw_true (by rw [o.sc]; exact o.kind) hy.1 hy.2.1 hy.2.2) pi blk hg ht he fs
      show PS X _ (tAsg (rdX X.K P e E).1 (gName i))
      rw [et]
      exact this
    · refine ps_set o.ndN i1 i2 e1 ?_ i3
      unfold swapsWith
      have hb : (X.env.blockKind == ScopeKind.function) = true := by unfold Env.blockKind; rw [show X.env.scope.kind = .function by rw [o.sc]; exact o.kind]; rfl
      show (pure (X.env.blockKind == .function && X.env.kindOf x == some .local && p.line == (Expr.ListComp elt [⟨tg, iter, ifs, 0⟩] scope lp).pos.line && !(scope.names.any fun (n, k) => n == x && (k == .local || k == .cell))) : Sem Bool) = pure false
      congr 1
      rw [hb]
      have hkx : X.env.kindOf x = X.env.scope.names.lookup x := rfl
      rw [hkx]
      show (true && (X.env.scope.names.lookup x == some .local) && (p.line == lp.line) && _) = false
      cases ha : (X.env.scope.names.lookup x == some NameKind.local) with
      | false => rfl
      | true =>
        cases hb : (p.line == lp.line) with
        | false => rfl
        | true =>
          cases hd : (scope.names.any fun (n, k) => n == x && (k == .local || k == .cell)) with
          | true => rfl
          | false => exact (hy ⟨by simpa using ha, hb, hd⟩).elim
theorem hs_unp {js : List Nat} {e : Xp} : HS W P (.unp js e) := fun X E c s o h => by
  simp only [chkS] at h
  split at h
  rotate_left
  · cases h
  rename_i ts v hk
  obtain ⟨k, p, pos, rfl⟩ := vAsgT_inv hk
  simp only [Bool.and_eq_true] at h
  obtain ⟨⟨h1, h2⟩, h3⟩ := h
  have hg : PG X (.Tuple ts k p) (rdG X.K (.tup js)) := o.tg (t := .tup js) h1
  exact ps_asg (chkE_ok P e X E c v o.toXOk h2).1 hg sw_tup (st_tup h3)
theorem hs_exs {e : Xp} : HS W P (.exs e) := fun X E c s o h => by
  simp only [chkS] at h
  split at h
  rotate_left
  · cases h
  rename_i v hk
  obtain ⟨p, rfl⟩ := vExs_inv hk
  rw [Bool.and_eq_true] at h
  exact ps_expr (chkE_ok P e X E c v o.toXOk h.1).1 (sw_plain h.2)
theorem ip_ok : PIp X .Add ipA := fun pins s σ H x y v u Q I r1 r2 h => by
  rcases h with (h | h) | h
  · exact ip_add pins s σ H x y v u Q I r1 r2 h
  · exact iop_add_str pins s σ H x y v u Q I r1 r2 h
  · exact iop_ext pins s σ H x y v u Q I r1 r2 h
theorem hs_aug {i : Nat} {e : Xp} : HS W P (.aug i e) := fun X E c s o h => by
  simp only [chkS] at h
  split at h
  rotate_left
  · cases h
  rename_i x v hk
  obtain ⟨p, pos, rfl⟩ := vAug_inv hk
  rw [Bool.and_eq_true] at h
  obtain ⟨i1, i2, i3⟩ := o.asg h.1
  exact ps_aug o.ndN i1 i2 (chkE_ok P e X E c v o.toXOk h.2).1 ip_ok i3
theorem hs_ife {t : Xp} {a b : List Sm} (ha : HSs W P a) (hb : HSs W P b) : HS W P (.ife t a b) := fun X E c s o h => by
  simp only [chkS] at h
  split at h
  rotate_left
  · cases h
  rename_i v xa xb hk
  obtain ⟨p, rfl⟩ := vIfS_inv hk
  simp only [Bool.and_eq_true] at h
  exact ps_if ((chkE_ok P t X E c v o.toXOk h.1.1.2).2.1 h.1.1.1) (ha X E c xa o h.1.2) (hb X E c xb o h.2)
theorem hs_fors {tg : Tg} {k : ItK} {its : List Xp} {body : List Sm} (hb : HSs W P body) : HS W P (.fors tg k its body) := fun X E c s o h => by
  simp only [chkS] at h
  split at h
  rotate_left
  · cases h
  rename_i tx ix xb hk
  obtain ⟨p, rfl⟩ := vFor_inv hk
  simp only [Bool.and_eq_true] at h
  obtain ⟨pi, fs⟩ := hi_ok (tg := tx) (chkA_ok P its) o.toXOk h.1.2
  exact ps_for o.po o.calm pi (o.tg h.1.1) (hb X E c xb o h.2) fs
theorem hs_whl {t : Xp} {body : List Sm} (hb : HSs W P body) : HS W P (.whl t body) := fun X E c s o h => by
  simp only [chkS] at h
  split at h
  rotate_left
  · cases h
  rename_i v xb hk
  obtain ⟨p, rfl⟩ := vWhl_inv hk
  simp only [Bool.and_eq_true] at h
  exact ps_while o.po ((chkE_ok P t X E c v o.toXOk h.1.2).2.1 h.1.1) (hb X E c xb o h.2)
theorem hs_ret {e : Xp} : HS W P (.ret e) := fun X E c s o h => by
  simp only [chkS] at h
  split at h
  rotate_left
  · cases h
  rename_i v hk
  obtain ⟨p, rfl⟩ := vRet_inv hk
  exact ps_ret (chkE_ok P e X E c v o.toXOk h).1
theorem hs_retN : HS W P .retN := fun X E c s o h => by
  simp only [chkS] at h
  split at h
  rotate_left
  · cases h
  rename_i hk
  obtain ⟨p, rfl⟩ := vRet_inv hk
  exact ps_retN
theorem hs_rse {w : Nat} : HS W P (.rse w) := fun X E c s o h => by
  simp only [chkS] at h
  split at h
  rotate_left
  · cases h
  rename_i x hk
  obtain ⟨p, q, r, rfl⟩ := vRse_inv hk
  simp only [Bool.and_eq_true, decide_eq_true_eq] at h
  exact o.rs x w h.1 (o.gl h.2).1 p q r
theorem hs_brk : HS W P .brk := fun X E c s o h => by
  cases s <;> simp [chkS, vBrk] at h
  exact ps_break
theorem hs_cnt : HS W P .cnt := fun X E c s o h => by
  cases s <;> simp [chkS, vCnt] at h
  exact ps_continue
theorem hs_pas : HS W P .pas := fun X E c s o h => by
  simp only [chkS] at h
  unfold vPas at h
  split at h
  · exact ps_pass
  · exact ps_doc
  · cases h
theorem hss_nil : HSs W P [] := fun X E c x o h => by
  cases x with
  | nil => exact pss_nil
  | cons _ _ => simp [chkSs] at h
theorem hss_cons {s : Sm} {ss : List Sm} (h1 : HS W P s) (h2 : HSs W P ss) : HSs W P (s :: ss) := fun X E c x o h => by
  by_cases hk : ∃ js, s = .kil js
  · obtain ⟨js, rfl⟩ := hk
    exact h2 X E c x o (by simpa [chkSs] using h)
  · rw [rdSs_cons fun js z => hk ⟨js, z⟩]
    cases x with
    | nil => cases s <;> simp [chkSs] at h; exact (hk ⟨_, rfl⟩).elim
    | cons y ys =>
      have h : chkS c s y = true ∧ chkSs c ss ys = true := by
        cases s <;> first | (simpa [chkSs] using h) | exact (hk ⟨_, rfl⟩).elim
      exact pss_cons (h1 X E c y o h.1) (h2 X E c ys o h.2)
theorem hs_kil {js : List Nat} : HS W P (.kil js) := fun X E c s o h => by simp [chkS] at h
mutual
theorem chkS_ok (W : Wd) (P : Nat → Sp) : ∀ s : Sm, HS W P s
  | .asg _ _ => hs_asg
  | .unp _ _ => hs_unp
  | .exs _ => hs_exs
  | .aug _ _ => hs_aug
  | .ife _ a b => hs_ife (chkSs_ok W P a) (chkSs_ok W P b)
  | .fors _ _ _ body => hs_fors (chkSs_ok W P body)
  | .whl _ body => hs_whl (chkSs_ok W P body)
  | .ret _ => hs_ret
  | .retN => hs_retN
  | .rse _ => hs_rse
  | .brk => hs_brk
  | .cnt => hs_cnt
  | .pas => hs_pas
  | .kil _ => hs_kil
theorem chkSs_ok (W : Wd) (P : Nat → Sp) : ∀ s : List Sm, HSs W P s
  | [] => hss_nil
  | s :: ss => hss_cons (chkS_ok W P s) (chkSs_ok W P ss)
end
end
end Wap
set_option Elab.async false
set_option linter.all false
set_option maxRecDepth 100000
set_option maxHeartbeats 1000000
/-! W17: every def keeps what the trees tell of it. -/
namespace Wap
open PySem PySem.Spec PyProof.Rows L2
section
variable {K : PySem.W.Frag} {W : Wd} {T : List (Addr × Str)} {F F' H H' : Hp} {σ σ' : L2.St} {env : List D} {S S' : List Addr} {v : V} {d : D} {E : XK} {cl : Nat → Addr}
theorem outE_len (fx : List Nat) : ∀ (n j : Nat) (env : List D), n ≤ env.length → (outE fx j n env).length = n
  | 0, _, _, _ => rfl
  | n + 1, j, [], h => by simp at h
  | n + 1, j, d :: env, h => by simp only [outE, List.length_cons]; rw [outE_len fx n (j + 1) env (by simpa using h)]
theorem Owns.outs (fx : List Nat) : ∀ (n j : Nat) {vs : List V} {ds : List D} {S : List Addr}, Owns K cl F H vs ds S → ∃ S', Owns K cl F H (vs.take n) (outE fx j n ds) S' ∧ S'.Sublist S
  | 0, _, vs, ds, S, h => ⟨[], by simp only [List.take_zero, outE]; exact .nil, List.nil_sublist _⟩
  | n + 1, j, [], ds, S, h => by
    have := h.length
    have : ds = [] := List.eq_nil_of_length_eq_zero (by simpa using this.symm)
    subst this
    exact ⟨[], by simp only [List.take_nil, outE]; exact .nil, List.nil_sublist _⟩
  | n + 1, j, v :: vs, [], S, h => by have := h.length; simp at this
  | n + 1, j, v :: vs, d :: ds, S, h => by
    obtain ⟨S1, S2, rfl, h1, h2⟩ := h.cons_inv
    obtain ⟨S3, h3, hs⟩ := Owns.outs fx n (j + 1) h2
    simp only [List.take_succ_cons, outE]
    split
    · exact ⟨S1 ++ S3, h1.cons h3, (List.Sublist.refl S1).append hs⟩
    · exact ⟨S3, .hole h3, hs.trans (List.sublist_append_right _ _)⟩
theorem outE_get (fx : List Nat) : ∀ (n j i : Nat) (env : List D) (d : D), (outE fx j n env)[i]? = some d → d ≠ .hole → i < n ∧ env[i]? = some d
  | 0, _, _, _, _, h, _ => by simp [outE] at h
  | n + 1, j, i, [], d, h, _ => by simp [outE] at h
  | n + 1, j, 0, e :: env, d, h, hd => by
    simp only [outE, List.getElem?_cons_zero, Option.some.injEq] at h
    split at h
    · exact ⟨by omega, by simp [h]⟩
    · exact (hd h.symm).elim
  | n + 1, j, i + 1, e :: env, d, h, hd => by
    simp only [outE, List.getElem?_cons_succ] at h
    obtain ⟨h1, h2⟩ := outE_get fx n (j + 1) i env d h hd
    exact ⟨by omega, by simpa using h2⟩
theorem Rel.outs (fx : List Nat) (n : Nat) (r : Rel K cl T F H σ env S) : ∃ S', Rel K cl T F H (σ.take n) (outE fx 0 n env) S' ∧ ∀ p ∈ S', p ∈ S := by
  obtain ⟨S', o, hs⟩ := r.own.outs fx n 0
  refine ⟨S', ⟨by rw [vals, List.map_take]; exact o, fun i d e hd => ?_, r.nd.sublist hs, fun p hp => r.dF p (hs.subset hp), r.ex, r.nt, r.tab⟩, fun p hp => hs.subset hp⟩
  obtain ⟨h1, h2⟩ := outE_get fx n 0 i env d e hd
  obtain ⟨v, hv⟩ := r.set i d h2 hd
  exact ⟨v, by rw [List.getElem?_take_of_lt h1]; exact hv⟩
theorem Rel.outs1 (fx : List Nat) (n : Nat) (r : Rel K cl T F H (some v :: σ) (d :: env) S) : ∃ S', Rel K cl T F H (some v :: σ.take n) (d :: outE fx 0 n env) S' ∧ ∀ p ∈ S', p ∈ S := by
  have dj := r
  obtain ⟨Sa, Sb, rfl, o1, r2⟩ := r.drop1
  obtain ⟨S', r3, hs⟩ := r2.outs fx n
  have r4 := Rel.frame o1 (S := S') (by
    have nd := dj.nd
    have := r3.nd
    simp only [List.nodup_append] at nd ⊢
    exact ⟨nd.1, this, fun a ha b hb => nd.2.2 a ha b (hs b hb)⟩) (fun p hp => dj.dF p (by simp [hp])) Stp.refl r3
  refine ⟨_, by simpa using r4, fun p hp => ?_⟩
  simp only [List.mem_append] at hp ⊢
  exact hp.imp id (hs p)
theorem Owns.holes {vs : List V} {ds : List D} (h : Owns K cl F H vs ds S) : ∀ n, Owns K cl F H (vs ++ List.replicate n V.non) (ds ++ List.replicate n D.hole) S := fun n => by
  have : Owns K cl F H (List.replicate n V.non) (List.replicate n D.hole) [] := by
    induction n with
    | zero => exact .nil
    | succ n ih => exact .hole ih
  simpa using h.append this
theorem Rel.start {N : List Str} {vs : List V} {ds : List D} (hl : vs.length = ds.length) (r : Rel K cl T F H (vs.map some) ds S) : Rel K cl T F H (L2.start N vs) (startE N.length ds) S := by
  refine ⟨?_, fun i d e hd => ?_, r.nd, r.dF, r.ex, r.nt, r.tab⟩
  · have o := r.own
    rw [vals_some] at o
    have e : vals (L2.start N vs) = vs ++ List.replicate (N.length - vs.length) V.non := by simp [L2.start, vals, List.map_map, Function.comp_def]
    rw [e, startE, ← hl]
    exact o.holes _
  · unfold startE at e
    by_cases hi : i < ds.length
    · rw [List.getElem?_append_left hi] at e
      obtain ⟨v, hv⟩ := r.set i d e hd
      refine ⟨v, ?_⟩
      unfold L2.start
      rw [List.getElem?_append_left (by simpa [hl] using hi)]
      exact hv
    · rw [List.getElem?_append_right (by omega), List.getElem?_replicate] at e
      split at e
      · cases e; exact (hd rfl).elim
      · cases e
end
def PostG (K : PySem.W.Frag) (W : Wd) (T : List (Addr × Str)) (F H : Hp) (S : List Addr) (vs : List V) (fx : List Nat) (Q : VK) (E : XK) : Out D → Prop
  | .ok d outs => ∀ v σ' H' F' S', Rel K W.cl T F' H' (some v :: σ') (d :: outs) S' → Stp F H S F' H' S' → (∀ i ∈ fx, σ'[i]? = (vs.map some)[i]?) → Q v H'
  | .exc w outs => ∀ dd σ' H' F' S', Rel K W.cl T F' H' σ' outs S' → Stp F H S F' H' S' → (∀ i ∈ fx, σ'[i]? = (vs.map some)[i]?) → H' dd = some (xdOf W w) → E (.ref (W.cl w)) (some dd) H'
  | .bad => False
/-- a def's promise, by what G tells of it -/
def spOf (K : PySem.W.Frag) (W : Wd) (T : List (Addr × Str)) (G : Gam) (f : Nat) : Sp := fun vs H Q E => ∃ F S ds, vs.length = ds.length ∧ Rel K W.cl T F H (vs.map some) ds S ∧ PostG K W T F H S vs (G.fx f) Q E (G.run f ds)
theorem gok (K : PySem.W.Frag) (W : Wd) (T : List (Addr × Str)) (G : Gam) : GOk K W T G (spOf K W T G) := fun f ds vs F H S Q E hl r p => ⟨F, S, ds, hl, r, by
  cases h : G.run f ds with
  | ok d outs => rw [h] at p; exact p
  | exc w outs => rw [h] at p; exact p
  | bad => rw [h] at p; exact p⟩
theorem gam_run (P : Nat → Option Dfn) (k f : Nat) (ds : List D) : (gam P (k + 1)).run f ds = (match P f with
    | some d => if ds.length = d.np ∧ d.np ≤ d.ns ∧ d.fx.all (· < d.np) then flOut d.fx d.np (execs (gam P k) d.body d.fx (startE d.ns ds)) else .bad
    | none => .bad) := rfl
theorem gam_fx (P : Nat → Option Dfn) : ∀ (k f : Nat), (gam P k).fx f = (match P f with | some d => d.fx | none => [])
  | 0, _ => rfl
  | _ + 1, _ => rfl
theorem glen (P : Nat → Option Dfn) : ∀ k, GLen (gam P k)
  | 0 => fun f ds => trivial
  | k + 1 => fun f ds => by
    rw [gam_run]
    cases P f with
    | none => trivial
    | some d =>
      dsimp only
      by_cases h : ds.length = d.np ∧ d.np ≤ d.ns ∧ d.fx.all (· < d.np)
      · rw [if_pos h]
        cases execs (gam P k) d.body d.fx (startE d.ns ds) with
        | nx env => unfold flOut; by_cases hl : d.np ≤ env.length <;> simp [hl, outE_len, h.1]
        | rt v env => unfold flOut; by_cases hl : d.np ≤ env.length <;> simp [hl, outE_len, h.1]
        | exc w env => unfold flOut; by_cases hl : d.np ≤ env.length <;> simp [hl, outE_len, h.1]
        | bk _ => trivial
        | ct _ => trivial
        | bad => trivial
      · rw [if_neg h]; trivial
/-- the body's reading, from the promise -/
theorem body_ok {K : PySem.W.Frag} {W : Wd} {T : List (Addr × Str)} {P : Nat → Option Dfn} {k f : Nat} {d : Dfn} {N : List Str} {vs : List V} {H : Hp} {Q : VK} {E : XK} (hd : P f = some d) (hN : N.length = d.ns) (h : spOf K W T (gam P (k + 1)) f vs H Q E) :
    vs.length = d.np ∧ rdSs K W (spOf K W T (gam P k)) E d.body { nx := fun _ H' => Q .non H', rt := Q } (L2.start N vs) H := by
  obtain ⟨F, S, ds, hl, r, p⟩ := h
  rw [gam_run, hd] at p
  dsimp only at p
  split at p
  rotate_left
  · exact p.elim
  rename_i hc
  obtain ⟨c1, c2, c3⟩ := hc
  refine ⟨by omega, ?_⟩
  rw [gam_fx, hd] at p
  dsimp only at p
  have rs : Rel K W.cl T F H (L2.start N vs) (startE d.ns ds) S := by rw [← hN]; exact r.start hl
  have fxb : ∀ i ∈ d.fx, i < d.np := fun i hi => by
    have := List.all_eq_true.mp c3 i hi
    simpa using this
  have fixd : ∀ {σ' : L2.St}, (∀ i ∈ d.fx, σ'[i]? = (L2.start N vs)[i]?) → ∀ i ∈ d.fx, (σ'.take d.np)[i]? = (vs.map some)[i]? := fun {σ'} h i hi => by
    have hb := fxb i hi
    rw [List.getElem?_take_of_lt hb, h i hi]
    unfold L2.start
    rw [List.getElem?_append_left (by simp; omega)]
  refine execs_sound (gok K W T (gam P k)) (glen P k) d.body E d.fx (startE d.ns ds) (L2.start N vs) H F S _ rs ?_
  cases ho : execs (gam P k) d.body d.fx (startE d.ns ds) with
  | nx env =>
    rw [ho] at p
    simp only [flOut] at p
    split at p
    rotate_left
    · exact p.elim
    intro σ' H' F' S' r' st' fx'
    obtain ⟨S2, r2, hs2⟩ := r'.outs d.fx d.np
    have ow : Owns K W.cl F' H' [.non] [.non] [] := Owns.of_reps (.sc .non .nil) (by simp [fz])
    have r3 := Rel.frame ow (by simpa using r2.nd) (by simp) Stp.refl r2
    exact p .non _ H' F' S2 (by simpa using r3) (st'.less hs2) (fixd fx')
  | rt v env =>
    rw [ho] at p
    simp only [flOut] at p
    split at p
    rotate_left
    · exact p.elim
    intro u σ' H' F' S' r' st' fx'
    obtain ⟨S2, r2, hs2⟩ := r'.outs1 d.fx d.np
    exact p u _ H' F' S2 r2 (st'.less hs2) (fixd fx')
  | exc w env =>
    rw [ho] at p
    simp only [flOut] at p
    split at p
    rotate_left
    · exact p.elim
    intro dd σ' H' F' S' r' st' fx' hx
    obtain ⟨S2, r2, hs2⟩ := r'.outs d.fx d.np
    exact p dd _ H' F' S2 r2 (st'.less hs2) (fixd fx') hx
  | bk _ => rw [ho] at p; exact p.elim
  | ct _ => rw [ho] at p; exact p.elim
  | bad => rw [ho] at p; exact p.elim
/-- a def of the text, and what was printed of it -/
structure DefAt (K : PySem.W.Frag) (mg : Str → Option Value) (cns : List (Str × Cn)) (fns rss : List (Str × Nat)) (P : Nat → Option Dfn) (x : Str) (f : Nat) (fa : Addr) (fd : FuncData) (ps : List Str) : Prop where
  ex : ∃ (qual : Str) (params : Arguments) (body : List Stmt) (scope : Scope) (dV kV doc pm cdv ct oc : Value) (an od : Option Addr) (osl : Array (Option Value)) (N : List Str) (d : Dfn),
    fd = PySem.W.fnOf x qual params body scope dV kV doc pm an cdv ct ∧ K.lookup fa = some ⟨oc, od, .func fd, osl⟩ ∧ PySem.W.codeIn K cdv qual = true ∧ FnScope N ps scope ∧ P f = some d ∧ N.length = d.ns ∧ ps.length = d.np ∧ chkSs ⟨N, scope, false, fns, cns, rss⟩ d.body body = true
  mgf : mg x = some (.ref fa)
  kp : PySem.W.keepIn K (.ref fa) = true
  bd : Binds K fd ps []
/-- all of them -/
theorem all_ok {Pg : Program} {w : World} {K : PySem.W.Frag} {mg : Str → Option Value} {base : Heap} {W : Wd} {T : List (Addr × Str)} {P : Nat → Option Dfn} {cns : List (Str × Cn)} {fns rss : List (Str × Nat)}
    (hD : ∀ x f, fns.lookup x = some f → ∃ fa fd ps, DefAt K mg cns fns rss P x f fa fd ps)
    (hc : ∀ x d, cns.lookup x = some d → ∃ u, mg x = some u ∧ RelV d.v u) (hb : ∀ x ∈ bNames, mg x = none)
    (hr : ∀ (X : Cx) (Sp : Nat → Sp) (E : XK), X.K = K → X.mg = mg → X.prog = Pg → X.w = w → X.calm = true → Takes X (fun cls d _ H => E cls d H) → ∀ x w, rss.lookup x = some w → Gl X x → ∀ p q r, PS X (.Raise (some (.Call (.Name x p) [] [] q)) none r) (rdS X.K W Sp E (.rse w))) :
    ∀ (k : Nat) (x : Str) (f : Nat) (fa : Addr) (fd : FuncData) (ps : List Str), DefAt K mg cns fns rss P x f fa fd ps → FnOk Pg w K mg base (CX Pg w) k fa fd ps (spOf K W T (gam P k) f)
  | 0, x, f, fa, fd, ps, D => ⟨fun vs H Q E h => by obtain ⟨_, _, _, _, _, p⟩ := h; exact p.elim, fun A outer s H args us vs Q E _ _ _ _ h => by obtain ⟨_, _, _, _, _, p⟩ := h; exact p.elim⟩
  | k + 1, x, f, fa, fd, ps, D => by
    obtain ⟨qual, params, body, scope, dV, kV, doc, pm, cdv, ct, oc, an, od, osl, N, d, rfl, lk, hcd, S, hP, hN, hps, hch⟩ := D.ex
    refine fn_of lk hcd S (fun vs H Q E h => ?_) fun A outer s H vs Q E hroom hsp => ?_
    · rw [(body_ok hP hN h).1, hps]
    · refine ⟨_, ?_, (body_ok hP hN hsp).2⟩
      have tk : Takes (cxOf (CX Pg w) Pg w K mg base N qual scope fa cdv A outer s H E) (fun cls d _ H => E cls d H) := takes_of rfl rfl rfl rfl
      refine chkSs_ok W (spOf K W T (gam P k)) d.body (cxOf (CX Pg w) Pg w K mg base N qual scope fa cdv A outer s H E) E ⟨N, scope, false, fns, cns, rss⟩ body ?_ hch
      exact { N := rfl, nd := S.nd, sc := rfl, calm := rfl, kind := S.kind, fn := fun _ _ => rfl, un := hroom.units,
              call := fun y g hy => by
                obtain ⟨ga, gd, gp, G⟩ := hD y g hy
                exact ⟨CX Pg w, k, ga, gd, gp, all_ok hD hc hb hr k y g ga gd gp G, hroom, G.mgf, G.kp, G.bd, passes_call tk fun _ _ _ _ h => h, fun o H s e s' h => by obtain ⟨_, _, _, _, _, _, _, _, _, _, _, _, z⟩ := h; exact z⟩,
              cn := hc, bl := hb, blk := rfl, po := passes_of rfl, rs := hr _ _ E rfl rfl rfl rfl rfl tk }
end Wap
set_option Elab.async false
set_option linter.all false
set_option maxRecDepth 100000
set_option maxHeartbeats 1000000
/-! W18: from the head's facts to the law. -/
namespace Wap
open PySem PySem.Spec PyProof.Rows L2
/-- a def as it was printed: its name, its number, its slots' names, its small text, its place -/
structure DI where
  name : Str
  f : Nat
  N : List Str
  d : Dfn
  st : Stmt
def DI.ps (i : DI) : List Str := (defArgs i.st).args.map (·.arg)
/-- every parameter is given -/
def BindOk (i : DI) : Prop := ∀ (kV doc pm : Value) (an : Option Addr) (cdv ct : Value) (us : List Value), us.length = i.ps.length → bindArgs (PySem.W.fnOf i.name i.name (defArgs i.st) (defBody i.st) (defScope i.st) .none kV doc pm an cdv ct) ⟨us, []⟩ = pure (i.ps.zip us)
def fnsOf (dis : List DI) : List (Str × Nat) := dis.map fun i => (i.name, i.f)
def Pof (dis : List DI) (f : Nat) : Option Dfn := (dis.find? (·.f == f)).map (·.d)
def DI.ok (fns : List (Str × Nat)) (cns : List (Str × Cn)) (rss : List (Str × Nat)) (i : DI) : Bool :=
  C8.scC i.N i.ps (defScope i.st) && decide (i.N.length = i.d.ns) && decide (i.ps.length = i.d.np) && chkSs ⟨i.N, defScope i.st, false, fns, cns, rss⟩ i.d.body (defBody i.st)
def DI.dd (i : DI) : He.DefD := ⟨(i.name, none), i.name, i.name, defArgs i.st, defBody i.st, defScope i.st, [], []⟩
def cnFa : Str × Cn → He.Fa
  | (x, .int i) => .int x i
  | (x, .str s) => .str x (sOf s)
  | (x, _) => .glo x
def faOf (dis : List DI) (cns : List (Str × Cn)) : List He.Fa := dis.map (fun i => .glo i.name) ++ bNames.map .free ++ cns.map cnFa
theorem SaysD.all {fa : List He.Fa} {fn : List He.DefD} {K : PySem.W.Frag} (c : He.SaysD fa fn K) {f : He.Fa} (h : f ∈ fa) : f.ok K = true := by
  obtain ⟨i, hi⟩ := List.getElem?_of_mem h
  exact c.fact i hi
theorem SaysD.defs {fa : List He.Fa} {fn : List He.DefD} {K : PySem.W.Frag} (c : He.SaysD fa fn K) {d : He.DefD} (h : d ∈ fn) : ∃ fd, L2.FunD K d.name d.qual d.params d.body d.scope (d.dvs K) (d.kws K) (He.fAd K d.at_) fd := by
  obtain ⟨i, hi⟩ := List.getElem?_of_mem h
  exact c.def_ i hi
theorem lookup_mem {α β : Type} [BEq α] [LawfulBEq α] {x : α} {f : β} : ∀ {l : List (α × β)}, l.lookup x = some f → (x, f) ∈ l
  | [], h => by simp at h
  | (a, b) :: l, h => by
    rw [List.lookup_cons] at h
    split at h
    · rename_i e
      cases h
      have : x = a := by simpa using e
      subst this
      exact List.mem_cons_self
    · exact List.mem_cons_of_mem _ (lookup_mem h)
section
variable {dis : List DI} {cns : List (Str × Cn)} {K : PySem.W.Frag} {h : Heap} {mg : Str → Option Value}
theorem defAt_of {rss : List (Str × Nat)} (KX : K.In h) (G : h.Ns mainGlobals mg) (c : He.SaysD (faOf dis cns) (dis.map DI.dd) K) (hok : dis.all (DI.ok (fnsOf dis) cns rss) = true) (hP : ∀ i ∈ dis, Pof dis i.f = some i.d) (hB : ∀ i ∈ dis, BindOk i) {i : DI} (hi : i ∈ dis) :
    ∃ fd, DefAt K mg cns (fnsOf dis) rss (Pof dis) i.name i.f (He.ga K i.name) fd i.ps ∧ ∀ (s : Shared) (us : List Value), us.length = i.ps.length → BindsTo s fd ⟨us, []⟩ (i.ps.zip us) := by
  have ho := List.all_eq_true.mp hok i hi
  unfold DI.ok at ho
  simp only [Bool.and_eq_true, decide_eq_true_eq] at ho
  obtain ⟨⟨⟨h2, h3⟩, h4⟩, h5⟩ := ho
  obtain ⟨fd, F⟩ := SaysD.defs c (d := i.dd) (List.mem_map.mpr ⟨i, hi, rfl⟩)
  have hb := hB i hi
  have bd := FunD.bindsN (ps := i.ps) F hb
  have ba := FunD.bindsA (ps := i.ps) F hb
  have kp := F.kp
  obtain ⟨oc, od, dV, kV, doc, pm, an, cdv, ct, osl, rfl, lk, hcd, hD, hK⟩ := F.ex
  refine ⟨_, ⟨⟨i.name, _, _, _, _, _, _, _, _, _, oc, _, od, osl, i.N, i.d, rfl, lk, hcd, C8.fnScope_by h2, hP i hi, h3, h4, h5⟩, He.glo_ok KX G (SaysD.all c (List.mem_append_left _ (List.mem_append_left _ (List.mem_map.mpr ⟨i, hi, rfl⟩)))), kp, bd⟩, ba⟩
theorem cns_of (KX : K.In h) (G : h.Ns mainGlobals mg) (c : He.SaysD (faOf dis cns) (dis.map DI.dd) K) (hcn : cns.all (fun p => match p.2 with | .int _ => true | .str _ => true | _ => false) = true) (x : Str) (d : Cn) (hx : cns.lookup x = some d) : ∃ u, mg x = some u ∧ RelV d.v u := by
  have hm := lookup_mem hx
  have hf := SaysD.all c (f := cnFa (x, d)) (List.mem_append_right _ (List.mem_map.mpr ⟨(x, d), hm, rfl⟩))
  have hk := List.all_eq_true.mp hcn _ hm
  cases d with
  | int i =>
    obtain ⟨t, e⟩ := He.int_ok KX G hf
    exact ⟨_, e, _, rfl⟩
  | str s =>
    obtain ⟨t, e⟩ := He.str_ok KX G hf
    exact ⟨_, e, _, rfl⟩
  | non => cases hk
  | bl _ => cases hk
theorem bl_of (KX : K.In h) (G : h.Ns mainGlobals mg) (c : He.SaysD (faOf dis cns) (dis.map DI.dd) K) (x : Str) (hx : x ∈ bNames) : mg x = none :=
  He.free_ok KX G (SaysD.all c (List.mem_append_left _ (List.mem_append_right _ (List.mem_map.mpr ⟨x, hx, rfl⟩))))
end
def W0 : Wd := ⟨fun _ => 0, fun _ => []⟩
theorem reps_ints {K : PySem.W.Frag} {cl : Nat → Addr} {F : Hp} : ∀ ns : List Int, Reps K cl F (ns.map V.int) (ns.map D.int)
  | [] => .nil
  | n :: ns => .sc (.int n) (reps_ints ns)
/-- the law, from what the trees tell (no exception, no lambda) -/
theorem end0 {l : PySem.W.OpenLaw} {dis : List DI} {cns : List (Str × Cn)} {k n : Nat} {i : DI} {x : Str} {w : World} {mg : Str → Option Value} {fa : Addr} {h : Heap} {K : PySem.W.Frag}
    (hok : dis.all (DI.ok (fnsOf dis) cns []) = true) (hP : ∀ i ∈ dis, Pof dis i.f = some i.d) (hB : ∀ i ∈ dis, BindOk i) (hcn : cns.all (fun p => match p.2 with | .int _ => true | .str _ => true | _ => false) = true) (hi : i ∈ dis) (hps : i.ps = [x])
    (hrun : ∀ ns : List Int, ns.length ≤ n → ∃ outs, (gam (Pof dis) k).run i.f [.nd .scr false (ns.map .int)] = .ok (.bl true) outs)
    (KX : K.In h) (G : h.Ns mainGlobals mg) (c : He.SaysD (faOf dis cns) (dis.map DI.dd) K) (hfa : mg i.name = some (.ref fa)) :
    ∃ (K : PySem.W.Frag) (fd : FuncData) (sp : Sp), K.In h ∧ (∀ (s : Shared) (u : Value), BindsTo s fd ⟨[u], []⟩ [(x, u)]) ∧
        (∀ (H : Hp) (a : Addr) (ns : List Int), ns.length ≤ n → Only H → SqL K H a (ns.map V.int) → sp [.ref a] H (fun v _ => v = .bl true) fun _ _ _ => False) ∧
        ∀ base : Heap, K.In base → base.Ns mainGlobals mg → FnOk l.prog w K mg base (CX l.prog w) k fa fd [x] sp := by
  obtain ⟨fd, D, hb⟩ := defAt_of (rss := []) KX G c hok hP hB hi
  have e := hfa.symm.trans D.mgf
  cases e
  rw [hps] at hb D
  refine ⟨K, fd, spOf K W0 [] (gam (Pof dis) k) i.f, KX, fun s u => hb s [u] rfl, fun H a ns hl hO hS => ?_, fun base _ _ => ?_⟩
  · obtain ⟨outs, ho⟩ := hrun ns hl
    refine ⟨H, [], [.nd .scr false (ns.map .int)], rfl, ⟨?_, fun j d e hd => ?_, List.nodup_nil, fun p hp => (by cases hp), Wap.Ex.refl H, fun p o e => ?_, fun p hp => (by cases hp)⟩, ?_⟩
    · exact .fro (.nd hS (reps_ints ns) .nil) .nil
    · cases j with
      | zero => exact ⟨_, rfl⟩
      | succ j => simp at e
    · rcases hO p with z | ⟨ob, xs, z⟩
      · rw [z] at e; cases e
      · rw [z] at e; cases e
        intro ps z; cases z
    · rw [ho]
      intro v σ' H' F' S' r' _ _
      obtain ⟨_, _, _, o1, _⟩ := r'.drop1
      exact o1.bl_inv
  · exact all_ok (fun y f hy => by
      have hm := lookup_mem hy
      obtain ⟨j, hj, e⟩ := List.mem_map.mp hm
      cases e
      obtain ⟨fd', D', _⟩ := defAt_of (rss := []) KX G c hok hP hB hj
      exact ⟨_, _, _, D'⟩) (cns_of KX G c hcn) (bl_of KX G c) (fun X Sp E _ _ _ _ _ _ x w h => by cases h) k i.name i.f _ fd [x] D
/-- the goal that the head leaves, where what a def lets out hangs on the world -/
theorem walkW {l : PySem.W.OpenLaw} {n k : Nat} {q : Program} {loose : List Str} {XP : (Str → Option Value) → Heap → Prop} {YP : World → Heap → Prop} {d : DefRec} {x : Str} (hn : l.most = some n) (hn2 : n ≤ sizeLine) (hdf : d.params.defaults = []) (hr : Room k callerA)
    (Fx : ∀ (w : World) (mg : Str → Option Value) (fa : Addr) (h : Heap), YP w h → h.Ns mainGlobals mg → mg d.name = some (.ref fa) →
      ∃ (K : PySem.W.Frag) (fd : FuncData) (sp : Sp), K.In h ∧ (∀ (s : Shared) (u : Value), BindsTo s fd ⟨[u], []⟩ [(x, u)]) ∧
        (∀ (H : Hp) (a : Addr) (ns : List Int), ns.length ≤ n → Only H → SqL K H a (ns.map V.int) → sp [.ref a] H (fun v _ => v = .bl true) fun _ _ _ => False) ∧
        ∀ base : Heap, K.In base → base.Ns mainGlobals mg → FnOk l.prog w K mg base (CX l.prog w) k fa fd [x] sp) : PySem.W.WalkO q loose XP YP l.row.toRowW d [] (fun f vs => PySem.call f vs) := by
  refine Att.attach_call hn hdf fun w _ s₁ mg _ fa _ _ _ _ a _ ns G Y _ _ _ hmg hobj hints hlen hg => ?_
  obtain ⟨K, fd, sp, KX, hbd, hs, hF⟩ := Fx w mg fa _ Y G.T.g hmg
  refine law_call KX G.T.g G.T.b G.T.builtins G.T.nolimit hg hobj hints (Nat.le_trans hlen hn2) hr hF hbd (fun H hO hS => hs H a ns hlen hO hS) fun H e s' z => ?_
  obtain ⟨_, _, _, _, _, _, _, _, _, _, _, _, z⟩ := z
  exact z
end Wap
set_option Elab.async false
set_option linter.all false
set_option maxRecDepth 100000
set_option maxHeartbeats 400000
/-! S1: what a text comes to, in small steps (the plain side). -/
namespace Wap
open PySem L2
theorem run_eq {P : Nat → Option Dfn} {k f : Nat} {d : Dfn} {ds : List D} (h : P f = some d) (hl : ds.length = d.np) (h2 : d.np ≤ d.ns) (h3 : d.fx.all (· < d.np) = true) : (gam P (k + 1)).run f ds = flOut d.fx d.np (execs (gam P k) d.body d.fx (startE d.ns ds)) := by
  rw [gam_run, h]
  exact if_pos ⟨hl, h2, h3⟩
def OK {α : Type} (X : Nat → List D → Prop) (Q : α → List D → Prop) : Out α → Prop
  | .ok a e => Q a e
  | .exc w e => X w e
  | .bad => False
/-- the ends of statements -/
structure Po where
  nx : List D → Prop
  rt : D → List D → Prop := fun _ _ => False
  bk : List D → Prop := fun _ => False
  ct : List D → Prop := fun _ => False
  ex : Nat → List D → Prop := fun _ _ => False
def OS (q : Po) : Fl → Prop
  | .nx e => q.nx e
  | .rt d e => q.rt d e
  | .bk e => q.bk e
  | .ct e => q.ct e
  | .exc w e => q.ex w e
  | .bad => False
/-- a test's two roads -/
def BR (d : D) (A B : Prop) : Prop := match d with
  | .bl c => if c = true then A else B
  | _ => False
def SM {α : Type} (Q : α → Prop) : Option α → Prop
  | some a => Q a
  | none => False
theorem SM_some {α : Type} {Q : α → Prop} {a : α} : SM Q (some a) = Q a := Eq.trans rfl rfl
theorem SM_if {α : Type} {Q : α → Prop} {c : Prop} [Decidable c] {a : Option α} : SM Q (if c then a else none) = (c ∧ SM Q a) := by by_cases h : c <;> simp [h, SM]
theorem SM_ite {α : Type} {Q : α → Prop} {c : Prop} [Decidable c] {a b : Option α} : SM Q (if c then a else b) = if c then SM Q a else SM Q b := by by_cases h : c <;> simp [h]
theorem SM_map {α β : Type} {Q : β → Prop} {f : α → β} {o : Option α} : SM Q (o.map f) = SM (fun a => Q (f a)) o := by cases o <;> rfl
theorem SM_bind {α β : Type} {Q : β → Prop} {f : α → Option β} {o : Option α} : SM Q (o.bind f) = SM (fun a => SM Q (f a)) o := by cases o <;> rfl
section
variable {α β : Type} {G : Gam} {fx : List Nat} {env : List D} {Q : D → List D → Prop} {q : Po} {X : Nat → List D → Prop}
theorem OK_ok {Q : α → List D → Prop} {a : α} {e : List D} : OK X Q (.ok a e) = Q a e := Eq.trans rfl rfl
theorem OK_bad {Q : α → List D → Prop} : OK X Q .bad = False := Eq.trans rfl rfl
theorem OK_bind {Q : β → List D → Prop} {o : Out α} {f : α → List D → Out β} : OK X Q (o.bind f) = OK X (fun a e => OK X Q (f a e)) o := by cases o <;> rfl
theorem OK_if {Q : α → List D → Prop} {c : Prop} [Decidable c] {a : Out α} : OK X Q (if c then a else .bad) = (c ∧ OK X Q a) := by by_cases h : c <;> simp [h, OK]
theorem OK_if' {Q : α → List D → Prop} {c : Prop} [Decidable c] {a : Out α} : OK X Q (if c then .bad else a) = (¬ c ∧ OK X Q a) := by by_cases h : c <;> simp [h, OK]
theorem OS_nx {e : List D} : OS q (.nx e) = q.nx e := Eq.trans rfl rfl
theorem OS_rt {d : D} {e : List D} : OS q (.rt d e) = q.rt d e := Eq.trans rfl rfl
theorem OS_bk {e : List D} : OS q (.bk e) = q.bk e := Eq.trans rfl rfl
theorem OS_ct {e : List D} : OS q (.ct e) = q.ct e := Eq.trans rfl rfl
theorem OS_ex {w : Nat} {e : List D} : OS q (.exc w e) = q.ex w e := Eq.trans rfl rfl
theorem OS_bad : OS q .bad = False := Eq.trans rfl rfl
theorem OS_if {c : Prop} [Decidable c] {a : Fl} : OS q (if c then a else .bad) = (c ∧ OS q a) := by by_cases h : c <;> simp [h, OS]
theorem OS_if' {c : Prop} [Decidable c] {a : Fl} : OS q (if c then .bad else a) = (¬ c ∧ OS q a) := by by_cases h : c <;> simp [h, OS]
theorem OK_ex {Q : α → List D → Prop} {w : Nat} {e : List D} : OK X Q (.exc w e) = X w e := Eq.trans rfl rfl
theorem OS_fl {o : Out α} {f : α → List D → Fl} : OS q (o.fl f) = OK q.ex (fun d e => OS q (f d e)) o := by cases o <;> rfl
theorem BR_bl {c : Bool} {A B : Prop} : BR (.bl c) A B = if c = true then A else B := Eq.trans rfl rfl
/-! ### expressions -/
theorem ok_c {c : Cn} : OK X Q (ev G (.c c) fx env) = Q c.d env := Eq.trans rfl rfl
theorem ok_g {x : Str} {c : Cn} : OK X Q (ev G (.g x c) fx env) = Q c.d env := Eq.trans rfl rfl
theorem ok_v {i : Nat} : OK X Q (ev G (.v i) fx env) = SM (fun d => fz d = true ∧ Q d env) env[i]? := by
  simp only [ev]
  cases env[i]? with
  | none => rfl
  | some d => show OK X Q (if fz d = true then _ else _) = _; rw [OK_if]; rfl
theorem ok_mv {i : Nat} : OK X Q (ev G (.mv i) fx env) = SM (fun d => isHole d = false ∧ Q d (env.set i .hole)) env[i]? := by
  simp only [ev]
  cases env[i]? with
  | none => rfl
  | some d => show OK X Q (if isHole d = true then _ else _) = _; rw [OK_if']; simp [SM, OK]
theorem ok_pr {p : Pr} {es : List Xp} : OK X Q (ev G (.pr p es) fx env) = OK X (fun ds e => SM (fun d => Q d e) (prim p ds)) (evA G es fx env) := by
  simp only [ev, OK_bind]
  congr 1
  funext ds e
  cases prim p ds <;> rfl
theorem ok_fz {a : Xp} : OK X Q (ev G (.fz a) fx env) = OK X (fun d e => Q (frz d) e) (ev G a fx env) := by
  simp only [ev, OK_bind]
  rfl
theorem ok_and {a b : Xp} : OK X Q (ev G (.and a b) fx env) = OK X (fun d e => BR d (OK X Q (ev G b fx e)) (Q (.bl false) e)) (ev G a fx env) := by
  simp only [ev, OK_bind]
  congr 1
  funext d e
  cases d with
  | bl c => cases c <;> rfl
  | _ => rfl
theorem ok_or {a b : Xp} : OK X Q (ev G (.or a b) fx env) = OK X (fun d e => BR d (Q (.bl true) e) (OK X Q (ev G b fx e))) (ev G a fx env) := by
  simp only [ev, OK_bind]
  congr 1
  funext d e
  cases d with
  | bl c => cases c <;> rfl
  | _ => rfl
def NB (Q : D → List D → Prop) (d : D) (e : List D) : Prop := match d with
  | .bl c => Q (.bl (!c)) e
  | _ => False
theorem NB_bl {c : Bool} {e : List D} : NB Q (.bl c) e = Q (.bl (!c)) e := Eq.trans rfl rfl
theorem ok_not {a : Xp} : OK X Q (ev G (.not a) fx env) = OK X (NB Q) (ev G a fx env) := by
  simp only [ev, OK_bind]
  congr 1
  funext d e
  cases d <;> rfl
theorem ok_ite {c a b : Xp} : OK X Q (ev G (.ite c a b) fx env) = OK X (fun d e => BR d (OK X Q (ev G a fx e)) (OK X Q (ev G b fx e))) (ev G c fx env) := by
  simp only [ev, OK_bind]
  congr 1
  funext d e
  cases d with
  | bl c => cases c <;> rfl
  | _ => rfl
theorem ok_chn {p r : Pr} {a b c : Xp} : OK X Q (ev G (.chn p r a b c) fx env) = OK X (fun x e1 => OK X (fun y e2 => SM (fun d => BR d (fz y = true ∧ OK X (fun z e3 => SM (fun d => Q d e3) (prim r [y, z])) (ev G c fx e2)) (Q (.bl false) e2)) (prim p [x, y])) (ev G b fx e1)) (ev G a fx env) := by
  simp only [ev, OK_bind]
  congr 1
  funext x e1
  congr 1
  funext y e2
  cases prim p [x, y] with
  | none => rfl
  | some d =>
    cases d with
    | bl c =>
      cases c with
      | false => rfl
      | true =>
        show OK X Q (if fz y = true then _ else _) = _
        rw [OK_if, OK_bind]
        show _ = (fz y = true ∧ _)
        congr 2
        funext z e3
        cases prim r [y, z] <;> rfl
    | _ => rfl
theorem ok_lst {es : List Xp} : OK X Q (ev G (.lst es) fx env) = OK X (fun ds e => ¬ (ds.any isHole || !(decide (ds.length ≤ lim))) = true ∧ Q (.nd .lst true ds) e) (evR G es fx env) := by
  simp only [ev, OK_bind, OK_if', OK_ok]
theorem ok_tup {es : List Xp} : OK X Q (ev G (.tup es) fx env) = OK X (fun ds e => ¬ (ds.any isHole || !(decide (ds.length ≤ lim))) = true ∧ Q (.nd .tup (anyOwn ds) ds) e) (evR G es fx env) := by
  simp only [ev, OK_bind, OK_if', OK_ok]
theorem ok_call {f : Nat} {es : List Xp} : OK X Q (ev G (.call f es) fx env) = OK X (fun ds e => OK X Q (callFin (G.fx f) es e (G.run f ds))) (evR G es fx env) := by
  simp only [ev, OK_bind]
theorem ok_mut {i : Nat} {m : Mu} {es : List Xp} : OK X Q (ev G (.mut i m es) fx env) = (okLst i env = true ∧ OK X (fun ds e => SM (fun d => match d with | .nd .lst true xs => SM (fun p => Q p.1 (e.set i (.nd .lst true p.2))) (muF m xs ds) | _ => False) e[i]?) (evR G es fx env)) := by
  simp only [ev]
  rw [OK_if, OK_bind]
  congr 2
  funext ds e
  cases h : e[i]? with
  | none => rfl
  | some d =>
    cases d with
    | nd k o xs =>
      cases k <;> cases o <;> first | rfl | (show OK X Q (match muF m xs ds with | some (d, ys) => _ | none => _) = SM _ (muF m xs ds); cases muF m xs ds <;> rfl)
    | _ => rfl
def SL (Q : D → List D → Prop) (x d d2 : D) (e : List D) : Prop := match d, d2 with
  | .int i, .int j => SM (fun d => Q d e) (cutP x (some i) (some j))
  | _, _ => False
theorem SL_int {x : D} {i j : Int} {e : List D} : SL Q x (.int i) (.int j) e = SM (fun d => Q d e) (cutP x (some i) (some j)) := Eq.trans rfl rfl
def isI : D → Bool
  | .int _ => true | _ => false
theorem ok_slcv {n : Nat} {b c : Xp} : OK X Q (ev G (.slc (.v n) b c) fx env) = (okSlot n env = true ∧ OK X (fun i e1 => isI i = true ∧ OK X (fun j e2 => SM (fun x => SL Q x i j e2) e2[n]?) (ev G c fx e1)) (ev G b fx env)) := by
  simp only [ev]
  rw [OK_if, OK_bind]
  congr 2
  funext i e1
  cases i with
  | int i =>
    show OK X Q (Out.bind _ _) = (true = true ∧ _)
    rw [OK_bind]
    simp only [true_and]
    congr 1
    funext j e2
    cases h : e2[n]? with
    | none => rfl
    | some x =>
      cases j with
      | int j => show OK X Q (match cutP x (some i) (some j) with | some d => _ | none => _) = SM _ (cutP x (some i) (some j)); cases cutP x (some i) (some j) <;> rfl
      | _ => rfl
  | _ => show False = (false = true ∧ _); simp
/-! ### operands -/
theorem oa_nil {Q : List D → List D → Prop} : OK X Q (evA G [] fx env) = Q [] env := Eq.trans rfl rfl
theorem oa_v {Q : List D → List D → Prop} {i : Nat} {es : List Xp} : OK X Q (evA G (.v i :: es) fx env) = (okSlot i env = true ∧ OK X (fun ds e => SM (fun d => isHole d = false ∧ Q (d :: ds) e) e[i]?) (evA G es fx env)) := by
  simp only [evA]
  rw [OK_if, OK_bind]
  congr 2
  funext ds e
  cases e[i]? with
  | none => rfl
  | some d => show OK X Q (if isHole d = true then _ else _) = _; rw [OK_if']; simp [SM, OK]
def notV : Xp → Bool
  | .v _ => false | _ => true
def notR : Xp → Bool
  | .rf _ => false | _ => true
theorem oa_e {Q : List D → List D → Prop} {e : Xp} {es : List Xp} (h : notV e = true) : OK X Q (evA G (e :: es) fx env) = OK X (fun d e1 => OK X (fun ds e2 => Q (d :: ds) e2) (evA G es fx e1)) (ev G e fx env) := by
  rw [evA_cons e es fx env (by rintro i rfl; cases h)]
  simp only [OK_bind, OK_ok]
theorem or_nil {Q : List D → List D → Prop} : OK X Q (evR G [] fx env) = Q [] env := Eq.trans rfl rfl
theorem or_rf {Q : List D → List D → Prop} {i : Nat} {es : List Xp} : OK X Q (evR G (.rf i :: es) fx env) = (okSlot i env = true ∧ OK X (fun ds e => SM (fun d => isHole d = false ∧ Q (d :: ds) (e.set i .hole)) e[i]?) (evR G es fx env)) := by
  simp only [evR]
  rw [OK_if, OK_bind]
  congr 2
  funext ds e
  cases e[i]? with
  | none => rfl
  | some d => show OK X Q (if isHole d = true then _ else _) = _; rw [OK_if']; simp [SM, OK]
theorem or_e {Q : List D → List D → Prop} {e : Xp} {es : List Xp} (h : notR e = true) : OK X Q (evR G (e :: es) fx env) = OK X (fun d e1 => OK X (fun ds e2 => Q (d :: ds) e2) (evR G es fx e1)) (ev G e fx env) := by
  rw [evR_cons e es fx env (by rintro i rfl; cases h)]
  simp only [OK_bind, OK_ok]
theorem oa_c {Q : List D → List D → Prop} (c : Cn) {es : List Xp} : OK X Q (evA G (.c c :: es) fx env) = OK X (fun d e1 => OK X (fun ds e2 => Q (d :: ds) e2) (evA G es fx e1)) (ev G (.c c) fx env) := oa_e rfl
theorem oa_g {Q : List D → List D → Prop} (x : Str) (c : Cn) {es : List Xp} : OK X Q (evA G (.g x c :: es) fx env) = OK X (fun d e1 => OK X (fun ds e2 => Q (d :: ds) e2) (evA G es fx e1)) (ev G (.g x c) fx env) := oa_e rfl
theorem oa_pr {Q : List D → List D → Prop} (p : Pr) (l : List Xp) {es : List Xp} : OK X Q (evA G (.pr p l :: es) fx env) = OK X (fun d e1 => OK X (fun ds e2 => Q (d :: ds) e2) (evA G es fx e1)) (ev G (.pr p l) fx env) := oa_e rfl
theorem oa_mv {Q : List D → List D → Prop} (j : Nat) {es : List Xp} : OK X Q (evA G (.mv j :: es) fx env) = OK X (fun d e1 => OK X (fun ds e2 => Q (d :: ds) e2) (evA G es fx e1)) (ev G (.mv j) fx env) := oa_e rfl
theorem oa_and {Q : List D → List D → Prop} (a b : Xp) {es : List Xp} : OK X Q (evA G (.and a b :: es) fx env) = OK X (fun d e1 => OK X (fun ds e2 => Q (d :: ds) e2) (evA G es fx e1)) (ev G (.and a b) fx env) := oa_e rfl
theorem oa_or {Q : List D → List D → Prop} (a b : Xp) {es : List Xp} : OK X Q (evA G (.or a b :: es) fx env) = OK X (fun d e1 => OK X (fun ds e2 => Q (d :: ds) e2) (evA G es fx e1)) (ev G (.or a b) fx env) := oa_e rfl
theorem oa_not {Q : List D → List D → Prop} (a : Xp) {es : List Xp} : OK X Q (evA G (.not a :: es) fx env) = OK X (fun d e1 => OK X (fun ds e2 => Q (d :: ds) e2) (evA G es fx e1)) (ev G (.not a) fx env) := oa_e rfl
theorem oa_fz {Q : List D → List D → Prop} (a : Xp) {es : List Xp} : OK X Q (evA G (.fz a :: es) fx env) = OK X (fun d e1 => OK X (fun ds e2 => Q (d :: ds) e2) (evA G es fx e1)) (ev G (.fz a) fx env) := oa_e rfl
theorem oa_chn {Q : List D → List D → Prop} (p r : Pr) (a b c : Xp) {es : List Xp} : OK X Q (evA G (.chn p r a b c :: es) fx env) = OK X (fun d e1 => OK X (fun ds e2 => Q (d :: ds) e2) (evA G es fx e1)) (ev G (.chn p r a b c) fx env) := oa_e rfl
theorem oa_slc {Q : List D → List D → Prop} (a b c : Xp) {es : List Xp} : OK X Q (evA G (.slc a b c :: es) fx env) = OK X (fun d e1 => OK X (fun ds e2 => Q (d :: ds) e2) (evA G es fx e1)) (ev G (.slc a b c) fx env) := oa_e rfl
theorem oa_ite {Q : List D → List D → Prop} (a b c : Xp) {es : List Xp} : OK X Q (evA G (.ite a b c :: es) fx env) = OK X (fun d e1 => OK X (fun ds e2 => Q (d :: ds) e2) (evA G es fx e1)) (ev G (.ite a b c) fx env) := oa_e rfl
theorem oa_call {Q : List D → List D → Prop} (f : Nat) (l : List Xp) {es : List Xp} : OK X Q (evA G (.call f l :: es) fx env) = OK X (fun d e1 => OK X (fun ds e2 => Q (d :: ds) e2) (evA G es fx e1)) (ev G (.call f l) fx env) := oa_e rfl
theorem oa_mut {Q : List D → List D → Prop} (j : Nat) (m : Mu) (l : List Xp) {es : List Xp} : OK X Q (evA G (.mut j m l :: es) fx env) = OK X (fun d e1 => OK X (fun ds e2 => Q (d :: ds) e2) (evA G es fx e1)) (ev G (.mut j m l) fx env) := oa_e rfl
theorem oa_lst {Q : List D → List D → Prop} (l : List Xp) {es : List Xp} : OK X Q (evA G (.lst l :: es) fx env) = OK X (fun d e1 => OK X (fun ds e2 => Q (d :: ds) e2) (evA G es fx e1)) (ev G (.lst l) fx env) := oa_e rfl
theorem oa_tup {Q : List D → List D → Prop} (l : List Xp) {es : List Xp} : OK X Q (evA G (.tup l :: es) fx env) = OK X (fun d e1 => OK X (fun ds e2 => Q (d :: ds) e2) (evA G es fx e1)) (ev G (.tup l) fx env) := oa_e rfl
theorem oa_comp {Q : List D → List D → Prop} (tg : Tg) (k : ItK) (a b : List Xp) (c : Xp) (vs : List Nat) {es : List Xp} : OK X Q (evA G (.comp tg k a b c vs :: es) fx env) = OK X (fun d e1 => OK X (fun ds e2 => Q (d :: ds) e2) (evA G es fx e1)) (ev G (.comp tg k a b c vs) fx env) := oa_e rfl
theorem or_c {Q : List D → List D → Prop} (c : Cn) {es : List Xp} : OK X Q (evR G (.c c :: es) fx env) = OK X (fun d e1 => OK X (fun ds e2 => Q (d :: ds) e2) (evR G es fx e1)) (ev G (.c c) fx env) := or_e rfl
theorem or_g {Q : List D → List D → Prop} (x : Str) (c : Cn) {es : List Xp} : OK X Q (evR G (.g x c :: es) fx env) = OK X (fun d e1 => OK X (fun ds e2 => Q (d :: ds) e2) (evR G es fx e1)) (ev G (.g x c) fx env) := or_e rfl
theorem or_pr {Q : List D → List D → Prop} (p : Pr) (l : List Xp) {es : List Xp} : OK X Q (evR G (.pr p l :: es) fx env) = OK X (fun d e1 => OK X (fun ds e2 => Q (d :: ds) e2) (evR G es fx e1)) (ev G (.pr p l) fx env) := or_e rfl
theorem or_mv {Q : List D → List D → Prop} (j : Nat) {es : List Xp} : OK X Q (evR G (.mv j :: es) fx env) = OK X (fun d e1 => OK X (fun ds e2 => Q (d :: ds) e2) (evR G es fx e1)) (ev G (.mv j) fx env) := or_e rfl
theorem or_and {Q : List D → List D → Prop} (a b : Xp) {es : List Xp} : OK X Q (evR G (.and a b :: es) fx env) = OK X (fun d e1 => OK X (fun ds e2 => Q (d :: ds) e2) (evR G es fx e1)) (ev G (.and a b) fx env) := or_e rfl
theorem or_or {Q : List D → List D → Prop} (a b : Xp) {es : List Xp} : OK X Q (evR G (.or a b :: es) fx env) = OK X (fun d e1 => OK X (fun ds e2 => Q (d :: ds) e2) (evR G es fx e1)) (ev G (.or a b) fx env) := or_e rfl
theorem or_not {Q : List D → List D → Prop} (a : Xp) {es : List Xp} : OK X Q (evR G (.not a :: es) fx env) = OK X (fun d e1 => OK X (fun ds e2 => Q (d :: ds) e2) (evR G es fx e1)) (ev G (.not a) fx env) := or_e rfl
theorem or_fz {Q : List D → List D → Prop} (a : Xp) {es : List Xp} : OK X Q (evR G (.fz a :: es) fx env) = OK X (fun d e1 => OK X (fun ds e2 => Q (d :: ds) e2) (evR G es fx e1)) (ev G (.fz a) fx env) := or_e rfl
theorem or_chn {Q : List D → List D → Prop} (p r : Pr) (a b c : Xp) {es : List Xp} : OK X Q (evR G (.chn p r a b c :: es) fx env) = OK X (fun d e1 => OK X (fun ds e2 => Q (d :: ds) e2) (evR G es fx e1)) (ev G (.chn p r a b c) fx env) := or_e rfl
theorem or_slc {Q : List D → List D → Prop} (a b c : Xp) {es : List Xp} : OK X Q (evR G (.slc a b c :: es) fx env) = OK X (fun d e1 => OK X (fun ds e2 => Q (d :: ds) e2) (evR G es fx e1)) (ev G (.slc a b c) fx env) := or_e rfl
theorem or_ite {Q : List D → List D → Prop} (a b c : Xp) {es : List Xp} : OK X Q (evR G (.ite a b c :: es) fx env) = OK X (fun d e1 => OK X (fun ds e2 => Q (d :: ds) e2) (evR G es fx e1)) (ev G (.ite a b c) fx env) := or_e rfl
theorem or_call {Q : List D → List D → Prop} (f : Nat) (l : List Xp) {es : List Xp} : OK X Q (evR G (.call f l :: es) fx env) = OK X (fun d e1 => OK X (fun ds e2 => Q (d :: ds) e2) (evR G es fx e1)) (ev G (.call f l) fx env) := or_e rfl
theorem or_mut {Q : List D → List D → Prop} (j : Nat) (m : Mu) (l : List Xp) {es : List Xp} : OK X Q (evR G (.mut j m l :: es) fx env) = OK X (fun d e1 => OK X (fun ds e2 => Q (d :: ds) e2) (evR G es fx e1)) (ev G (.mut j m l) fx env) := or_e rfl
theorem or_lst {Q : List D → List D → Prop} (l : List Xp) {es : List Xp} : OK X Q (evR G (.lst l :: es) fx env) = OK X (fun d e1 => OK X (fun ds e2 => Q (d :: ds) e2) (evR G es fx e1)) (ev G (.lst l) fx env) := or_e rfl
theorem or_tup {Q : List D → List D → Prop} (l : List Xp) {es : List Xp} : OK X Q (evR G (.tup l :: es) fx env) = OK X (fun d e1 => OK X (fun ds e2 => Q (d :: ds) e2) (evR G es fx e1)) (ev G (.tup l) fx env) := or_e rfl
theorem or_comp {Q : List D → List D → Prop} (tg : Tg) (k : ItK) (a b : List Xp) (c : Xp) (vs : List Nat) {es : List Xp} : OK X Q (evR G (.comp tg k a b c vs :: es) fx env) = OK X (fun d e1 => OK X (fun ds e2 => Q (d :: ds) e2) (evR G es fx e1)) (ev G (.comp tg k a b c vs) fx env) := or_e rfl
theorem or_v {Q : List D → List D → Prop} (j : Nat) {es : List Xp} : OK X Q (evR G (.v j :: es) fx env) = OK X (fun d e1 => OK X (fun ds e2 => Q (d :: ds) e2) (evR G es fx e1)) (ev G (.v j) fx env) := or_e rfl
theorem ok_fin {f : List Nat} {es : List Xp} {e outs : List D} {d : D} : OK X Q (callFin f es e (.ok d outs)) = (refsOk f 0 es = true ∧ Q d (putB es outs e)) := by
  unfold callFin
  rw [OK_if, OK_ok]
theorem ok_finx {f : List Nat} {es : List Xp} {e outs : List D} {w : Nat} : OK X Q (callFin f es e (.exc w outs)) = (refsOk f 0 es = true ∧ X w (putB es outs e)) := by
  unfold callFin
  rw [OK_if, OK_ex]
theorem rf_nil {f : List Nat} {n : Nat} : refsOk f n [] = true := rfl
theorem rf_rf {f : List Nat} {n i : Nat} {es : List Xp} : refsOk f n (.rf i :: es) = (f.contains n && refsOk f (n + 1) es) := rfl
theorem pb_nil {outs e : List D} : putB [] outs e = e := rfl
theorem pb_rf {i : Nat} {es : List Xp} {o : D} {outs e : List D} : putB (.rf i :: es) (o :: outs) e = putB es outs (e.set i o) := rfl
theorem rf_c {f : List Nat} {n : Nat} (c : Cn) {es : List Xp} : refsOk f n (.c c :: es) = refsOk f (n + 1) es := rfl
theorem pb_c (c : Cn) {es : List Xp} {o : D} {outs e : List D} : putB (.c c :: es) (o :: outs) e = putB es outs e := rfl
theorem rf_g {f : List Nat} {n : Nat} (x : Str) (c : Cn) {es : List Xp} : refsOk f n (.g x c :: es) = refsOk f (n + 1) es := rfl
theorem pb_g (x : Str) (c : Cn) {es : List Xp} {o : D} {outs e : List D} : putB (.g x c :: es) (o :: outs) e = putB es outs e := rfl
theorem rf_pr {f : List Nat} {n : Nat} (p : Pr) (l : List Xp) {es : List Xp} : refsOk f n (.pr p l :: es) = refsOk f (n + 1) es := rfl
theorem pb_pr (p : Pr) (l : List Xp) {es : List Xp} {o : D} {outs e : List D} : putB (.pr p l :: es) (o :: outs) e = putB es outs e := rfl
theorem rf_mv {f : List Nat} {n : Nat} (j : Nat) {es : List Xp} : refsOk f n (.mv j :: es) = refsOk f (n + 1) es := rfl
theorem pb_mv (j : Nat) {es : List Xp} {o : D} {outs e : List D} : putB (.mv j :: es) (o :: outs) e = putB es outs e := rfl
theorem rf_and {f : List Nat} {n : Nat} (a b : Xp) {es : List Xp} : refsOk f n (.and a b :: es) = refsOk f (n + 1) es := rfl
theorem pb_and (a b : Xp) {es : List Xp} {o : D} {outs e : List D} : putB (.and a b :: es) (o :: outs) e = putB es outs e := rfl
theorem rf_or {f : List Nat} {n : Nat} (a b : Xp) {es : List Xp} : refsOk f n (.or a b :: es) = refsOk f (n + 1) es := rfl
theorem pb_or (a b : Xp) {es : List Xp} {o : D} {outs e : List D} : putB (.or a b :: es) (o :: outs) e = putB es outs e := rfl
theorem rf_not {f : List Nat} {n : Nat} (a : Xp) {es : List Xp} : refsOk f n (.not a :: es) = refsOk f (n + 1) es := rfl
theorem pb_not (a : Xp) {es : List Xp} {o : D} {outs e : List D} : putB (.not a :: es) (o :: outs) e = putB es outs e := rfl
theorem rf_fz {f : List Nat} {n : Nat} (a : Xp) {es : List Xp} : refsOk f n (.fz a :: es) = refsOk f (n + 1) es := rfl
theorem pb_fz (a : Xp) {es : List Xp} {o : D} {outs e : List D} : putB (.fz a :: es) (o :: outs) e = putB es outs e := rfl
theorem rf_chn {f : List Nat} {n : Nat} (p r : Pr) (a b c : Xp) {es : List Xp} : refsOk f n (.chn p r a b c :: es) = refsOk f (n + 1) es := rfl
theorem pb_chn (p r : Pr) (a b c : Xp) {es : List Xp} {o : D} {outs e : List D} : putB (.chn p r a b c :: es) (o :: outs) e = putB es outs e := rfl
theorem rf_slc {f : List Nat} {n : Nat} (a b c : Xp) {es : List Xp} : refsOk f n (.slc a b c :: es) = refsOk f (n + 1) es := rfl
theorem pb_slc (a b c : Xp) {es : List Xp} {o : D} {outs e : List D} : putB (.slc a b c :: es) (o :: outs) e = putB es outs e := rfl
theorem rf_ite {f : List Nat} {n : Nat} (a b c : Xp) {es : List Xp} : refsOk f n (.ite a b c :: es) = refsOk f (n + 1) es := rfl
theorem pb_ite (a b c : Xp) {es : List Xp} {o : D} {outs e : List D} : putB (.ite a b c :: es) (o :: outs) e = putB es outs e := rfl
theorem rf_call {fs : List Nat} {n : Nat} (f : Nat) (l : List Xp) {es : List Xp} : refsOk fs n (.call f l :: es) = refsOk fs (n + 1) es := rfl
theorem pb_call (f : Nat) (l : List Xp) {es : List Xp} {o : D} {outs e : List D} : putB (.call f l :: es) (o :: outs) e = putB es outs e := rfl
theorem rf_mut {f : List Nat} {n : Nat} (j : Nat) (m : Mu) (l : List Xp) {es : List Xp} : refsOk f n (.mut j m l :: es) = refsOk f (n + 1) es := rfl
theorem pb_mut (j : Nat) (m : Mu) (l : List Xp) {es : List Xp} {o : D} {outs e : List D} : putB (.mut j m l :: es) (o :: outs) e = putB es outs e := rfl
theorem rf_lst {f : List Nat} {n : Nat} (l : List Xp) {es : List Xp} : refsOk f n (.lst l :: es) = refsOk f (n + 1) es := rfl
theorem pb_lst (l : List Xp) {es : List Xp} {o : D} {outs e : List D} : putB (.lst l :: es) (o :: outs) e = putB es outs e := rfl
theorem rf_tup {f : List Nat} {n : Nat} (l : List Xp) {es : List Xp} : refsOk f n (.tup l :: es) = refsOk f (n + 1) es := rfl
theorem pb_tup (l : List Xp) {es : List Xp} {o : D} {outs e : List D} : putB (.tup l :: es) (o :: outs) e = putB es outs e := rfl
theorem rf_comp {f : List Nat} {n : Nat} (tg : Tg) (k : ItK) (a b : List Xp) (c : Xp) (vs : List Nat) {es : List Xp} : refsOk f n (.comp tg k a b c vs :: es) = refsOk f (n + 1) es := rfl
theorem pb_comp (tg : Tg) (k : ItK) (a b : List Xp) (c : Xp) (vs : List Nat) {es : List Xp} {o : D} {outs e : List D} : putB (.comp tg k a b c vs :: es) (o :: outs) e = putB es outs e := rfl
theorem rf_v {f : List Nat} {n : Nat} (j : Nat) {es : List Xp} : refsOk f n (.v j :: es) = refsOk f (n + 1) es := rfl
theorem pb_v (j : Nat) {es : List Xp} {o : D} {outs e : List D} : putB (.v j :: es) (o :: outs) e = putB es outs e := rfl
theorem frz_nd {kd : Kd} {o : Bool} {xs : List D} : frz (.nd kd o xs) = .nd kd false (frzs xs) := by simp only [frz]
theorem frz_i {i : Int} : frz (.int i) = .int i := by simp only [frz]
theorem frz_s {s : List Nat} : frz (.str s) = .str s := by simp only [frz]
theorem frz_b {b : Bool} : frz (.bl b) = .bl b := by simp only [frz]
theorem frz_n : frz .non = .non := by simp only [frz]
theorem frzs_n : frzs [] = [] := by simp only [frzs]
theorem frzs_c {d : D} {ds : List D} : frzs (d :: ds) = frz d :: frzs ds := by simp only [frzs]
theorem frzs_int (ns : List Int) : frzs (ns.map .int) = ns.map .int := by
  induction ns with
  | nil => exact frzs_n
  | cons n ns ih => rw [List.map_cons, frzs_c, frz_i, ih]
theorem frzs_str (ns : List (List Nat)) : frzs (ns.map .str) = ns.map .str := by
  induction ns with
  | nil => exact frzs_n
  | cons n ns ih => rw [List.map_cons, frzs_c, frz_s, ih]
/-! ### statements -/
theorem os_nil : OS q (execs G [] fx env) = q.nx env := Eq.trans rfl rfl
theorem os_cons {s : Sm} {ss : List Sm} : OS q (execs G (s :: ss) fx env) = OS { q with nx := fun e => OS q (execs G ss fx e) } (exec G s fx env) := by
  show OS q ((exec G s fx env).then _) = _
  cases exec G s fx env <;> rfl
theorem os_asg {i : Nat} {e : Xp} : OS q (exec G (.asg i e) fx env) = OK q.ex (fun d e1 => OS q (asgP fx i d e1)) (ev G e fx env) := OS_fl
theorem os_unp {js : List Nat} {e : Xp} : OS q (exec G (.unp js e) fx env) = OK q.ex (fun d e1 => OS q (unpP fx js d e1)) (ev G e fx env) := OS_fl
theorem os_exs {e : Xp} : OS q (exec G (.exs e) fx env) = OK q.ex (fun _ e1 => q.nx e1) (ev G e fx env) := OS_fl
theorem os_aug {i : Nat} {e : Xp} : OS q (exec G (.aug i e) fx env) = (okSlot i env = true ∧ OK q.ex (fun d e1 => OS q (augP fx i d e1)) (ev G e fx env)) := by
  simp only [exec]
  rw [OS_if, OS_fl]
theorem os_ife {c : Xp} {a b : List Sm} : OS q (exec G (.ife c a b) fx env) = OK q.ex (fun d e => BR d (OS q (execs G a fx e)) (OS q (execs G b fx e))) (ev G c fx env) := by
  simp only [exec]
  rw [OS_fl]
  congr 1
  funext d e
  cases d with
  | bl c => cases c <;> rfl
  | _ => rfl
theorem os_ret {e : Xp} : OS q (exec G (.ret e) fx env) = OK q.ex (fun d e1 => isHole d = false ∧ q.rt d e1) (ev G e fx env) := by
  simp only [exec]
  rw [OS_fl]
  congr 1
  funext d e
  rw [OS_if']
  simp [OS]
theorem os_retN : OS q (exec G .retN fx env) = q.rt .non env := Eq.trans rfl rfl
theorem os_rse {w : Nat} : OS q (exec G (.rse w) fx env) = q.ex w env := Eq.trans rfl rfl
theorem os_brk : OS q (exec G .brk fx env) = q.bk env := Eq.trans rfl rfl
theorem os_cnt : OS q (exec G .cnt fx env) = q.ct env := Eq.trans rfl rfl
theorem os_pas : OS q (exec G .pas fx env) = q.nx env := Eq.trans rfl rfl
theorem os_kil {js : List Nat} : OS q (exec G (.kil js) fx env) = q.nx (kills js env) := Eq.trans rfl rfl
theorem os_asgP {i : Nat} {d : D} {e : List D} : OS q (asgP fx i d e) = (fx.contains i = false ∧ isHole d = false ∧ i < e.length ∧ q.nx (e.set i d)) := by
  unfold asgP
  rw [OS_if', OS_nx]
  simp [and_assoc]
end
end Wap
set_option Elab.async false
set_option linter.all false
set_option maxRecDepth 100000
set_option maxHeartbeats 400000
/-! S2: loops and comprehensions, on the plain side. -/
namespace Wap
open PySem L2
section
variable {G : Gam} {fx : List Nat} {env : List D} {Q : D → List D → Prop} {q : Po} {X : Nat → List D → Prop}
def IN (Q : ItD → List D → Prop) (d : D) (e : List D) : Prop := match d with
  | .int n => small n = true ∧ Q (.rng 0 n.toNat) e
  | _ => False
theorem oi_rng1 {Q : ItD → List D → Prop} {e : Xp} : OK X Q (evI G .rng1 [e] fx env) = OK X (IN Q) (ev G e fx env) := by
  simp only [evI, OK_bind]
  congr 1
  funext d e1
  cases d with
  | int n => show OK X Q (if small n = true then _ else _) = _; rw [OK_if]; rfl
  | _ => rfl
theorem IN_int {Q : ItD → List D → Prop} {n : Int} {e : List D} : IN Q (.int n) e = (small n = true ∧ Q (.rng 0 n.toNat) e) := Eq.trans rfl rfl
def IN2 (Q : ItD → List D → Prop) (d d2 : D) (e : List D) : Prop := match d, d2 with
  | .int i, .int j => (small i && small j) = true ∧ Q (.rng i (j - i).toNat) e
  | _, _ => False
theorem IN2_int {Q : ItD → List D → Prop} {i j : Int} {e : List D} : IN2 Q (.int i) (.int j) e = ((small i && small j) = true ∧ Q (.rng i (j - i).toNat) e) := Eq.trans rfl rfl
theorem oi_rng2 {Q : ItD → List D → Prop} {a b : Xp} : OK X Q (evI G .rng2 [a, b] fx env) = OK X (fun d e1 => OK X (fun d2 e2 => IN2 Q d d2 e2) (ev G b fx e1)) (ev G a fx env) := by
  simp only [evI, OK_bind]
  congr 1
  funext d e1
  congr 1
  funext d2 e2
  cases d with
  | int i => cases d2 with
    | int j => show OK X Q (if (small i && small j) = true then _ else _) = _; rw [OK_if]; rfl
    | _ => rfl
  | _ => rfl
theorem oi_v {Q : ItD → List D → Prop} {i : Nat} : OK X Q (evI G .seq [.v i] fx env) = SM (fun d => SM (fun it => Q it env) (seqSlot i d)) env[i]? := by
  simp only [evI]
  cases env[i]? with
  | none => rfl
  | some d => show OK X Q (match seqSlot i d with | some it => _ | none => _) = SM _ (seqSlot i d); cases seqSlot i d <;> rfl
theorem oi_e {Q : ItD → List D → Prop} {e : Xp} (h : notV e = true) : OK X Q (evI G .seq [e] fx env) = OK X (fun d e1 => SM (fun it => Q it e1) (seqOf d)) (ev G e fx env) := by
  have : evI G .seq [e] fx env = (ev G e fx env).bind fun d env1 => match seqOf d with
    | some it => .ok it env1
    | none => .bad := by cases e <;> first | rfl | cases h
  rw [this, OK_bind]
  congr 1
  funext d e1
  cases seqOf d <;> rfl
theorem os_fors {tg : Tg} {k : ItK} {its : List Xp} {body : List Sm} : OS q (exec G (.fors tg k its body) fx env) = OK q.ex (fun it e0 => OS q (loopL (itm it) (turnF (fun x e => bindT (itFx it fx) tg x e) (fun e => execs G body (itFx it fx) e)) fuel 0 e0)) (evI G k its fx env) := by
  simp only [exec]
  cases evI G k its fx env <;> rfl
theorem loop_rule {it : ItD} {turn : D → List D → Fl} {n : Nat} {x : Nat → D} {e0 : List D} (I : Nat → List D → Prop) (hn : n < fuel) (h0 : I 0 e0) (hx : ∀ j e, j < n → I j e → itm it j e = some (some (x j))) (hend : ∀ e, I n e → itm it n e = some none)
    (hs : ∀ j e, j < n → I j e → OS { nx := I (j + 1), ct := I (j + 1), bk := q.nx, rt := q.rt, ex := q.ex } (turn (x j) e)) (hd : ∀ e, I n e → q.nx e) : OS q (loopL (itm it) turn fuel 0 e0) := by
  have key : ∀ (m j f : Nat) (e : List D), j + m = n → m < f → I j e → OS q (loopL (itm it) turn f j e) := by
    intro m
    induction m with
    | zero =>
      intro j f e hj hf hi
      have : j = n := by omega
      subst this
      cases f with
      | zero => omega
      | succ f =>
        simp only [loopL, hend e hi]
        exact hd e hi
    | succ m ih =>
      intro j f e hj hf hi
      cases f with
      | zero => omega
      | succ f =>
        have hjn : j < n := by omega
        simp only [loopL, hx j e hjn hi]
        have hh := hs j e hjn hi
        cases ht : turn (x j) e with
        | nx e' => rw [ht] at hh; exact ih (j + 1) f e' (by omega) (by omega) hh
        | ct e' => rw [ht] at hh; exact ih (j + 1) f e' (by omega) (by omega) hh
        | bk e' => rw [ht] at hh; exact hh
        | rt d e' => rw [ht] at hh; exact hh
        | exc w e' => rw [ht] at hh; exact hh
        | bad => rw [ht] at hh; exact hh.elim
  exact key n 0 fuel e0 (by omega) hn h0
theorem os_turn {bind : D → List D → Option (List D)} {body : List D → Fl} {x : D} {e : List D} : OS q (turnF bind body x e) = SM (fun e1 => OS q (body e1)) (bind x e) := by
  unfold turnF
  cases bind x e <;> rfl
theorem sb_one {Q : List D → Prop} {j : Nat} {x : D} {e : List D} : SM Q (bindT fx (.one j) x e) = (fx.contains j = false ∧ fz x = true ∧ j < e.length ∧ Q (e.set j x)) := by
  have : bindT fx (.one j) x e = if (fx.contains j || !fz x || !(decide (j < e.length))) = true then none else some (e.set j x) := rfl
  rw [this]
  cases h1 : fx.contains j <;> cases h2 : fz x <;> by_cases h3 : j < e.length <;> simp [h3, SM]
theorem sb_tup {Q : List D → Prop} {js : List Nat} {xs : List D} {e : List D} : SM Q (bindT fx (.tup js) (.nd .tup false xs) e) = ((xs.length = js.length ∧ xs.all fz ∧ js.all (fun j => !fx.contains j && decide (j < e.length))) ∧ Q ((js.zip xs).foldl (fun e p => e.set p.1 p.2) e)) := by
  unfold bindT
  rw [SM_if]
  rfl
theorem kills_idem (vs : List Nat) (e : List D) : kills vs (kills vs e) = kills vs e := by
  apply List.ext_getElem?
  intro i
  rw [kills_get, kills_get]
  by_cases h : i ∈ vs
  · simp only [h, if_true]
    cases e[i]? <;> rfl
  · simp only [h, if_false]
theorem restore_get (old : List D) : ∀ (vs : List Nat) (e : List D) (i : Nat), e.length = old.length → (restore vs old e)[i]? = if i ∈ vs then old[i]? else e[i]?
  | [], e, i, _ => by simp [restore]
  | j :: vs, e, i, hl => by
    have hh : restore (j :: vs) old e = restore vs old (match old[j]? with | some d => e.set j d | none => e) := rfl
    rw [hh]
    cases hj : old[j]? with
    | none =>
      rw [restore_get old vs e i hl]
      by_cases h : i ∈ vs
      · simp [h]
      · by_cases hij : i = j
        · subst hij
          have : e.length ≤ i := by rw [hl]; exact List.getElem?_eq_none_iff.mp hj
          simp [h, hj, List.getElem?_eq_none_iff.mpr this]
        · simp [h, hij]
    | some d =>
      rw [restore_get old vs (e.set j d) i (by simpa using hl)]
      by_cases h : i ∈ vs
      · simp [h]
      · by_cases hij : i = j
        · subst hij
          have : i < e.length := by rw [hl]; exact (List.getElem?_eq_some_iff.mp hj).1
          simp [h, hj, this]
        · simp [h, hij, List.getElem?_set_ne (fun z => hij z.symm)]
theorem restore_kills (vs : List Nat) (e : List D) : restore vs e (kills vs e) = e := by
  apply List.ext_getElem?
  intro i
  rw [restore_get e vs _ i (kills_len vs e), kills_get]
  by_cases h : i ∈ vs <;> simp [h]
def NX : Nat → List D → Prop := fun _ _ => False
/-- a comprehension that changes nothing else: x, what is walked; g, what each turn puts in -/
theorem ok_comp {tg : Tg} {k : ItK} {its cond : List Xp} {elt : Xp} {vs : List Nat} {n : Nat} (x : Nat → D) (g : Nat → Option D) (hn : n ≤ lim)
    (h1 : (tgIn tg vs && vs.all (fun j => (match env[j]? with | some d => isHole d || fz d | none => false) && !fx.contains j)) = true)
    (hI : OK NX (fun it e0 => e0 = env ∧ (∀ j, j < n → itm it j (kills vs env) = some (some (x j))) ∧ itm it n (kills vs env) = some none ∧
      ∀ j, j < n → SM (fun e1 => OK NX (fun d e2 => BR d (OK NX (fun y e3 => isHole y = false ∧ g j = some y ∧ kills vs e3 = kills vs env) (ev G elt (itFx it fx) e2)) (g j = none ∧ kills vs e2 = kills vs env)) (evC G cond (itFx it fx) e1)) (bindT (itFx it fx) tg (x j) (kills vs env))) (evI G k its fx env))
    (hQ : Q (.nd .lst true ((List.range n).filterMap g)) env) : OK X Q (ev G (.comp tg k its cond elt vs) fx env) := by
  simp only [ev]
  rw [OK_if]
  refine ⟨h1, ?_⟩
  rw [OK_bind]
  cases ho : evI G k its fx env with
  | exc w e => rw [ho] at hI; exact hI.elim
  | bad => rw [ho] at hI; exact hI.elim
  | ok it e0 =>
    rw [ho] at hI
    obtain ⟨rfl, hx, hend, hs⟩ := hI
    have key : ∀ (m j f : Nat) (acc : List D), j + m = n → m < f → acc.length ≤ j → compL (itm it) (turnC vs (fun x e => bindT (itFx it fx) tg x (kills vs e)) (fun e => evC G cond (itFx it fx) e) (fun e => ev G elt (itFx it fx) e)) f j acc (kills vs e0)
        = .ok (acc ++ ((List.range' j m).filterMap g)) (kills vs e0) := by
      intro m
      induction m with
      | zero =>
        intro j f acc hj hf ha
        have : j = n := by omega
        subst this
        cases f with
        | zero => omega
        | succ f => simp only [compL, hend]; simp
      | succ m ih =>
        intro j f acc hj hf ha
        cases f with
        | zero => omega
        | succ f =>
          have hjn : j < n := by omega
          simp only [compL, hx j hjn]
          have hh := hs j hjn
          have ht : turnC vs (fun x e => bindT (itFx it fx) tg x (kills vs e)) (fun e => evC G cond (itFx it fx) e) (fun e => ev G elt (itFx it fx) e) (x j) (kills vs e0) = .ok (g j) (kills vs e0) := by
            unfold turnC
            dsimp only
            rw [kills_idem]
            cases hb : bindT (itFx it fx) tg (x j) (kills vs e0) with
            | none => rw [hb] at hh; exact hh.elim
            | some e1 =>
              rw [hb] at hh
              have hh : OK _ _ (evC G cond (itFx it fx) e1) := hh
              show (evC G cond (itFx it fx) e1).bind _ = _
              cases hc : evC G cond (itFx it fx) e1 with
              | exc w e => rw [hc] at hh; exact hh.elim
              | bad => rw [hc] at hh; exact hh.elim
              | ok d e2 =>
                rw [hc] at hh
                cases d with
                | bl b =>
                  cases b with
                  | false =>
                    have hh : g j = none ∧ kills vs e2 = kills vs e0 := hh
                    show Out.ok none (kills vs e2) = _
                    rw [hh.1, hh.2]
                  | true =>
                    have hh : OK NX (fun y e3 => isHole y = false ∧ g j = some y ∧ kills vs e3 = kills vs e0) (ev G elt (itFx it fx) e2) := hh
                    show (ev G elt (itFx it fx) e2).bind _ = _
                    cases he : ev G elt (itFx it fx) e2 with
                    | exc w e => rw [he] at hh; exact hh.elim
                    | bad => rw [he] at hh; exact hh.elim
                    | ok y e3 =>
                      rw [he] at hh
                      obtain ⟨h1, h2, h3⟩ := hh
                      show (if isHole y = true then Out.bad else .ok (some y) (kills vs e3)) = _
                      rw [h1, h2, h3]
                      rfl
                | _ => exact hh.elim
          rw [ht]
          rw [List.range'_succ]
          cases hg : g j with
          | none =>
            show compL _ _ f (j + 1) acc _ = _
            rw [ih (j + 1) f acc (by omega) (by omega) (by omega)]
            simp [List.filterMap_cons, hg]
          | some y =>
            show (if acc.length < lim then compL _ _ f (j + 1) (acc ++ [y]) _ else .bad) = _
            rw [if_pos (by omega), ih (j + 1) f (acc ++ [y]) (by omega) (by omega) (by simp; omega)]
            simp [List.filterMap_cons, hg]
    show OK X Q ((compL (itm it) (turnC vs (fun x e => bindT (itFx it fx) tg x (kills vs e)) (fun e => evC G cond (itFx it fx) e) (fun e => ev G elt (itFx it fx) e)) fuel 0 [] (kills vs e0)).bind _)
    have hf : n < fuel := by unfold fuel; unfold lim at hn; omega
    rw [key n 0 fuel [] (by omega) hf (by simp)]
    show Q _ (restore vs e0 (kills vs e0))
    rw [restore_kills, List.nil_append, ← List.range_eq_range']
    exact hQ
/-- a comprehension without a test, by what holds of each thing made -/
theorem ok_compR {tg : Tg} {k : ItK} {its : List Xp} {elt : Xp} {vs : List Nat} {n : Nat} (x : Nat → D) (T : Nat → D → Prop) (hn : n ≤ lim)
    (h1 : (tgIn tg vs && vs.all (fun j => (match env[j]? with | some d => isHole d || fz d | none => false) && !fx.contains j)) = true)
    (hI : OK NX (fun it e0 => e0 = env ∧ (∀ j, j < n → itm it j (kills vs env) = some (some (x j))) ∧ itm it n (kills vs env) = some none ∧
      ∀ j, j < n → SM (fun e1 => OK NX (fun y e3 => isHole y = false ∧ T j y ∧ kills vs e3 = kills vs env) (ev G elt (itFx it fx) e1)) (bindT (itFx it fx) tg (x j) (kills vs env))) (evI G k its fx env))
    (hQ : ∀ ys : List D, ys.length = n → (∀ j y, ys[j]? = some y → T j y) → Q (.nd .lst true ys) env) : OK X Q (ev G (.comp tg k its [] elt vs) fx env) := by
  cases ho : evI G k its fx env with
  | exc w e => rw [ho] at hI; exact hI.elim
  | bad => rw [ho] at hI; exact hI.elim
  | ok it e0 =>
    rw [ho] at hI
    obtain ⟨he, hx, hend, hs⟩ := hI
    have hch : ∀ j : Nat, ∃ y, j < n → SM (fun e1 => OK NX (fun y' e3 => isHole y' = false ∧ (y' = y ∧ T j y') ∧ kills vs e3 = kills vs env) (ev G elt (itFx it fx) e1)) (bindT (itFx it fx) tg (x j) (kills vs env)) := by
      intro j
      by_cases hj : j < n
      · have hh := hs j hj
        cases hb : bindT (itFx it fx) tg (x j) (kills vs env) with
        | none => rw [hb] at hh; exact hh.elim
        | some e1 =>
          rw [hb] at hh
          have hh : OK NX _ (ev G elt (itFx it fx) e1) := hh
          cases hv : ev G elt (itFx it fx) e1 with
          | exc w e => rw [hv] at hh; exact hh.elim
          | bad => rw [hv] at hh; exact hh.elim
          | ok y e3 =>
            rw [hv] at hh
            refine ⟨y, fun _ => ?_⟩
            show OK NX _ (ev G elt (itFx it fx) e1)
            rw [hv]
            exact ⟨hh.1, ⟨rfl, hh.2.1⟩, hh.2.2⟩
      · exact ⟨.hole, fun h => absurd h hj⟩
    let g : Nat → D := fun j => Classical.choose (hch j)
    have hg : ∀ j, j < n → SM (fun e1 => OK NX (fun y' e3 => isHole y' = false ∧ (y' = g j ∧ T j y') ∧ kills vs e3 = kills vs env) (ev G elt (itFx it fx) e1)) (bindT (itFx it fx) tg (x j) (kills vs env)) := fun j hj => Classical.choose_spec (hch j) hj
    refine ok_comp x (fun j => some (g j)) hn h1 ?_ ?_
    · rw [ho]
      refine ⟨he, hx, hend, fun j hj => ?_⟩
      have hh := hg j hj
      cases hb : bindT (itFx it fx) tg (x j) (kills vs env) with
      | none => rw [hb] at hh; exact hh.elim
      | some e1 =>
        rw [hb] at hh
        have hh : OK NX _ (ev G elt (itFx it fx) e1) := hh
        show OK NX _ (ev G elt (itFx it fx) e1)
        cases hv : ev G elt (itFx it fx) e1 with
        | exc w e => rw [hv] at hh; exact hh.elim
        | bad => rw [hv] at hh; exact hh.elim
        | ok y e3 =>
          rw [hv] at hh
          exact ⟨hh.1, by rw [hh.2.1.1], hh.2.2⟩
    · have er : (List.range n).filterMap (fun j => some (g j)) = (List.range n).map g := by
        rw [← List.filterMap_eq_map]; rfl
      rw [er]
      refine hQ _ (by simp) fun j y hy => ?_
      rw [List.getElem?_map] at hy
      by_cases hj : j < n
      · rw [List.getElem?_range hj] at hy
        simp only [Option.map_some, Option.some.injEq] at hy
        subst hy
        have hh := hg j hj
        cases hb : bindT (itFx it fx) tg (x j) (kills vs env) with
        | none => rw [hb] at hh; exact hh.elim
        | some e1 =>
          rw [hb] at hh
          have hh : OK NX _ (ev G elt (itFx it fx) e1) := hh
          cases hv : ev G elt (itFx it fx) e1 with
          | exc w e => rw [hv] at hh; exact hh.elim
          | bad => rw [hv] at hh; exact hh.elim
          | ok y e3 =>
            rw [hv] at hh
            have := hh.2.1
            rw [← this.1]
            exact this.2
      · rw [List.getElem?_eq_none_iff.mpr (by simp; omega)] at hy
        cases hy
end
end Wap
set_option Elab.async false
set_option linter.all false
set_option maxRecDepth 100000
namespace Wap
def d0 : Dfn := ⟨2, 6, [0, 1],
  [.fors (.tup [2, 3, 4, 5]) .seq [(.v 1)]
   [.ife (.and (.pr .eq [(.pr .idx [(.v 0), (.v 2)]), (.v 3)]) (.pr .ne [(.pr .idx [(.v 0), (.v 4)]), (.v 5)]))
     [.ret (.c (.bl false))]
     []],
  .ret (.c (.bl true))]⟩
def d1 : Dfn := ⟨2, 2, [0, 1],
  [.ife (.pr .lt [(.v 1), (.pr .len [(.v 0)])])
   [.ret (.pr .idx [(.v 0), (.v 1)])]
   [],
  .ret (.c (.int 0))]⟩
def d2 : Dfn := ⟨2, 7, [1],
  [.ife (.pr .lt [(.pr .abs [(.v 0)]), (.pr .pow [(.c (.int 10)), (.c (.int 18))])])
   [.asg 2 (.pr .mod [(.pr .add [(.pr .mul [(.v 0), (.c (.int 48271))]), (.c (.int 11))]), (.c (.int 2147483647))]),
    .asg 3 (.pr .mod [(.pr .add [(.pr .add [(.pr .mul [(.v 2), (.v 2)]), (.pr .mul [(.c (.int 40692)), (.v 2)])]), (.v 0)]), (.c (.int 2147483399))]),
    .asg 4 (.pr .mod [(.pr .add [(.pr .mul [(.v 3), (.c (.int 16807))]), (.v 2)]), (.c (.int 1000000007))]),
    .asg 0 (.pr .add [(.v 3), (.pr .mul [(.c (.int 2147483399)), (.pr .add [(.v 4), (.pr .mul [(.c (.int 1000000007)), (.v 2)])])])])]
   [.asg 0 (.pr .sub [(.pr .abs [(.v 0)]), (.pr .pow [(.c (.int 10)), (.c (.int 18))])])],
  .asg 5 (.lst []),
  .fors (.one 6) .seq [(.v 1)]
   [.exs (.mut 5 .append [(.pr .mod [(.v 0), (.v 6)])]),
    .asg 0 (.pr .fdiv [(.v 0), (.v 6)])],
  .ret (.mv 5)]⟩
def d3 : Dfn := ⟨2, 3, [0, 1],
  [.ife (.pr .isN [(.v 1)])
   [.ret (.pr .isN [(.v 0)])]
   [],
  .ife (.pr (.isi .str) [(.v 1)])
   [.ret (.and (.pr (.isi .str) [(.v 0)]) (.pr .eq [(.v 0), (.v 1)]))]
   [],
  .ife (.pr (.isi .int) [(.v 1)])
   [.ret (.and (.pr (.isi .int) [(.v 0)]) (.and (.pr .eq [(.pr (.isi .bool) [(.v 0)]), (.pr (.isi .bool) [(.v 1)])]) (.pr .eq [(.v 0), (.v 1)])))]
   [],
  .ife (.or (.pr .ne [(.pr (.isi .list) [(.v 1)]), (.pr (.isi .list) [(.v 0)])]) (.pr .ne [(.pr (.isi .tuple) [(.v 1)]), (.pr (.isi .tuple) [(.v 0)])]))
   [.ret (.c (.bl false))]
   [],
  .ret (.and (.pr .eq [(.pr .len [(.v 0)]), (.pr .len [(.v 1)])]) (.pr .all [(.comp (.one 2) .rng1 [(.pr .len [(.v 1)])] [] (.fz (.call 3 [(.pr .idx [(.v 0), (.v 2)]), (.pr .idx [(.v 1), (.v 2)])])) [2])]))]⟩
def d4 : Dfn := ⟨1, 1, [0],
  [.ret (.pr .idx [(.lst [(.c (.int 3)), (.c (.int 4)), (.c (.int 5)), (.c (.int 2)), (.c (.int 6)), (.c (.int 3)), (.c (.int 12)), (.c (.int 4)), (.c (.int 1)), (.c (.int 7)), (.c (.int 5)), (.c (.int 9)), (.c (.int 4))]), (.pr .idx [(.call 2 [(.v 0), (.fz (.lst [(.c (.int 13))]))]), (.c (.int 0))])])]⟩
def d5 : Dfn := ⟨1, 1, [0],
  [.ret (.ite (.pr .eq [(.v 0), (.c (.str [121]))]) (.c (.str [110])) (.c (.str [121])))]⟩
def d6 : Dfn := ⟨3, 6, [0, 1, 2],
  [.ife (.pr .eq [(.pr .idx [(.v 0), (.c (.int 0))]), (.c (.int 1))])
   [.ret (.comp (.one 5) .rng1 [(.v 1)] [] (.pr .idx [(.c (.str [110, 121])), (.pr .int [(.pr .lt [(.v 5), (.pr .mod [(.v 2), (.pr .add [(.v 1), (.c (.int 1))])])])])]) [5])]
   [],
  .ife (.pr .eq [(.pr .idx [(.v 0), (.c (.int 0))]), (.c (.int 2))])
   [.asg 3 (.fz (.lst [(.pr .mod [(.v 2), (.pr .add [(.v 1), (.c (.int 1))])]), (.pr .mod [(.pr .fdiv [(.v 2), (.c (.int 64))]), (.pr .add [(.v 1), (.c (.int 1))])])])),
    .ret (.comp (.one 5) .rng1 [(.v 1)] [] (.pr .idx [(.c (.str [110, 121])), (.pr .int [(.pr .lt [(.v 5), (.pr .idx [(.v 3), (.pr .mod [(.v 5), (.c (.int 2))])])])])]) [5])]
   [],
  .ife (.pr .eq [(.pr .idx [(.v 0), (.c (.int 0))]), (.c (.int 3))])
   [.ret (.comp (.one 5) .rng1 [(.v 1)] [] (.pr .idx [(.c (.str [110, 121])), (.pr .int [(.pr .inn [(.v 5), (.tup [(.pr .mod [(.v 2), (.v 1)]), (.pr .mod [(.pr .fdiv [(.v 2), (.c (.int 64))]), (.pr .add [(.v 1), (.c (.int 1))])])])])])]) [5])]
   [],
  .asg 4 (.lst [(.pr .idx [(.c (.str [110, 121])), (.pr .mod [(.pr .fdiv [(.v 2), (.c (.int 3))]), (.c (.int 2))])])]),
  .fors (.one 5) .rng2 [(.c (.int 1)), (.v 1)]
   [.exs (.mut 4 .append [(.ite (.or (.pr .eq [(.pr .idx [(.v 4), (.pr .fdiv [(.pr .sub [(.v 5), (.c (.int 1))]), (.c (.int 2))])]), (.c (.str [110]))]) (.pr .eq [(.pr .mod [(.pr .fdiv [(.v 2), (.pr .add [(.c (.int 3)), (.v 5)])]), (.c (.int 3))]), (.c (.int 0))])) (.c (.str [110])) (.c (.str [121])))])],
  .ret (.mv 4)]⟩
def d7 : Dfn := ⟨2, 4, [1],
  [.asg 2 (.c (.str [])),
  .fors (.one 3) .rng1 [(.v 1)]
   [.asg 2 (.pr .add [(.v 2), (.pr .idx [(.c (.str [110, 121])), (.pr .mod [(.v 0), (.c (.int 2))])])]),
    .asg 0 (.pr .fdiv [(.v 0), (.c (.int 2))])],
  .ret (.v 2)]⟩
def d8 : Dfn := ⟨3, 9, [0, 1, 2],
  [.ife (.or (.pr .eq [(.pr .idx [(.v 2), (.c (.int 0))]), (.c (.int 0))]) (.pr .eq [(.pr .mod [(.v 0), (.c (.int 31))]), (.c (.int 7))]))
   [.ret (.call 7 [(.v 0), (.v 1)])]
   [],
  .asg 3 (.pr .add [(.c (.int 1)), (.pr .mod [(.pr .idx [(.v 2), (.c (.int 1))]), (.v 1)])]),
  .asg 4 (.fz (.call 6 [(.v 2), (.v 3), (.v 0)])),
  .asg 5 (.fz (.call 7 [(.pr .idx [(.v 2), (.c (.int 2))]), (.v 1)])),
  .asg 6 (.c (.str [])),
  .fors (.one 7) .rng1 [(.v 1)]
   [.asg 8 (.pr .idx [(.v 4), (.pr .mod [(.pr .add [(.v 7), (.pr .mul [(.pr .fdiv [(.v 7), (.c (.int 2))]), (.pr .idx [(.v 2), (.c (.int 3))])])]), (.v 3)])]),
    .asg 6 (.fz (.pr .add [(.v 6), (.ite (.pr .eq [(.pr .idx [(.v 5), (.v 7)]), (.c (.str [121]))]) (.call 5 [(.v 8)]) (.v 8))]))],
  .ret (.v 6)]⟩
def d9 : Dfn := ⟨1, 1, [0],
  [.ret (.call 2 [(.v 0), (.fz (.lst [(.c (.int 5)), (.c (.int 12)), (.c (.int 8192)), (.c (.int 7)), (.c (.int 8192))]))])]⟩
def d10 : Dfn := ⟨3, 5, [0, 1, 2],
  [.asg 3 (.fz (.call 9 [(.v 2)])),
  .ret (.comp (.one 4) .seq [(.v 0)] [] (.fz (.call 8 [(.pr .idx [(.call 2 [(.v 4), (.fz (.lst [(.c (.int 8192))]))]), (.c (.int 0))]), (.v 1), (.v 3)])) [4])]⟩
def d11 : Dfn := ⟨3, 13, [0, 1, 2],
  [.asg 3 (.fz (.call 2 [(.v 2), (.fz (.lst [(.c (.int 5)), (.c (.int 8192)), (.c (.int 4))]))])),
  .asg 4 (.fz (.call 7 [(.pr .idx [(.v 3), (.c (.int 1))]), (.v 1)])),
  .asg 5 (.lst []),
  .fors (.one 6) .seq [(.v 0)]
   [.unp [7, 8, 9, 10, 11, 12] (.fz (.call 2 [(.v 6), (.fz (.lst [(.v 1), (.c (.int 2)), (.v 1), (.c (.int 2)), (.c (.int 17)), (.c (.int 3))]))])),
    .asg 8 (.pr .idx [(.c (.str [121, 110])), (.v 8)]),
    .asg 10 (.pr .idx [(.c (.str [121, 110])), (.v 10)]),
    .ife (.and (.pr .gt [(.pr .idx [(.v 3), (.c (.int 0))]), (.c (.int 2))]) (.pr .gt [(.v 12), (.c (.int 0))]))
     [.asg 9 (.pr .mod [(.pr .add [(.v 7), (.c (.int 1))]), (.v 1)])]
     [],
    .ife (.and (.pr .inn [(.pr .idx [(.v 3), (.c (.int 0))]), (.tup [(.c (.int 1)), (.c (.int 2)), (.c (.int 4))])]) (.or (.pr .gt [(.v 11), (.c (.int 0))]) (.pr .gt [(.pr .idx [(.v 3), (.c (.int 2))]), (.c (.int 0))])))
     [.asg 10 (.fz (.ite (.pr .eq [(.pr .idx [(.v 4), (.v 7)]), (.v 8)]) (.pr .idx [(.v 4), (.v 9)]) (.v 10)))]
     [],
    .exs (.mut 5 .append [(.fz (.tup [(.v 7), (.v 8), (.v 9), (.v 10)]))])],
  .ret (.mv 5)]⟩
def d12 : Dfn := ⟨2, 3, [0, 1],
  [.ret (.pr .all [(.comp (.one 2) .seq [(.v 1)] [] (.or (.pr .ne [(.pr .idx [(.v 0), (.pr .idx [(.v 2), (.c (.int 0))])]), (.pr .idx [(.v 2), (.c (.int 1))])]) (.pr .eq [(.pr .idx [(.v 0), (.pr .idx [(.v 2), (.c (.int 2))])]), (.pr .idx [(.v 2), (.c (.int 3))])])) [2])])]⟩
def d13 : Dfn := ⟨1, 10, [],
  [.asg 0 (.fz (.pr .slB [(.v 0), (.c (.int 63))])),
  .asg 1 (.fz (.call 4 [(.fz (.call 1 [(.v 0), (.c (.int 0))]))])),
  .asg 2 (.fz (.call 10 [(.fz (.pr .add [(.pr .slA [(.v 0), (.c (.int 2))]), (.lst [(.c (.int 4)), (.c (.int 6))])])), (.v 1), (.fz (.call 1 [(.v 0), (.c (.int 1))]))])),
  .asg 3 (.fz (.call 11 [(.fz (.pr .add [(.pr .slA [(.v 0), (.c (.int 2))]), (.lst [(.c (.int 3)), (.c (.int 8)), (.c (.int 9))])])), (.v 1), (.pr .add [(.call 1 [(.v 0), (.c (.int 1))]), (.c (.int 1))])])),
  .fors (.one 4) .rng1 [(.pr .len [(.v 2)])]
   [.asg 5 (.fz (.call 2 [(.pr .add [(.call 1 [(.v 0), (.pr .add [(.c (.int 2)), (.v 4)])]), (.c (.int 9))]), (.fz (.lst [(.c (.int 67)), (.c (.int 67)), (.c (.int 5))]))])),
    .asg 6 (.pr .mod [(.pr .idx [(.v 5), (.c (.int 0))]), (.pr .len [(.v 3)])]),
    .asg 7 (.fz (.ite (.pr .gt [(.pr .idx [(.v 5), (.c (.int 2))]), (.c (.int 0))]) (.slc (.v 3) (.v 6) (.pr .add [(.pr .add [(.v 6), (.c (.int 1))]), (.pr .mod [(.pr .idx [(.v 5), (.c (.int 1))]), (.c (.int 7))])])) (.pr .list [(.v 3)]))),
    .fors (.one 8) .seq [(.tup [(.pr .idx [(.v 2), (.v 4)]), (.pr .idx [(.v 2), (.pr .mod [(.pr .idx [(.v 5), (.c (.int 1))]), (.pr .len [(.v 2)])])])])]
     [.asg 9 (.fz (.pr .list [(.v 7)])),
      .ife (.or (.not (.call 3 [(.fz (.call 0 [(.v 8), (.v 9)])), (.fz (.call 12 [(.v 8), (.v 7)]))])) (.not (.call 3 [(.v 9), (.v 7)])))
       [.ret (.c (.bl false))]
       []],
    .ife (.not (.call 3 [(.fz (.call 0 [(.pr .idx [(.v 2), (.v 4)]), (.fz (.lst []))])), (.c (.bl true))]))
     [.ret (.c (.bl false))]
     []],
  .ret (.c (.bl true))]⟩
end Wap
set_option Elab.async false
set_option linter.all false
set_option maxRecDepth 100000
set_option maxHeartbeats 400000
/-! S3: the helpers of the laws. -/
namespace Wap
open PySem L2
section
variable {a b : Int} {s t : List Nat} {xs ys : List D} {o o' : Bool} {d : D} {e : List D} {i : Nat} {x : Bool}
theorem p_add : prim .add [.int a, .int b] = some (.int (a + b)) := rfl
theorem p_adds : prim .add [.str s, .str t] = if s.length + t.length ≤ lim then some (.str (s ++ t)) else none := rfl
theorem p_sub : prim .sub [.int a, .int b] = some (.int (a - b)) := rfl
theorem p_mul : prim .mul [.int a, .int b] = if (-(2 ^ 64) < a ∧ a < 2 ^ 64) ∨ (-(2 ^ 64) < b ∧ b < 2 ^ 64) then some (.int (a * b)) else none := rfl
theorem p_fdiv : prim .fdiv [.int a, .int b] = if b ≠ 0 ∧ b.natAbs < 1073741824 then some (.int (a.fdiv b)) else none := rfl
theorem p_mod : prim .mod [.int a, .int b] = if b ≠ 0 then some (.int (a.fmod b)) else none := rfl
theorem p_pow : prim .pow [.int a, .int b] = if 0 ≤ b ∧ b ≤ 1000000 ∧ a.natAbs < 2 ^ 64 then some (.int (a ^ b.toNat)) else none := rfl
theorem p_neg : prim .neg [.int a] = some (.int (-a)) := rfl
theorem p_lt : prim .lt [.int a, .int b] = some (.bl (decide (a < b))) := rfl
theorem p_le : prim .le [.int a, .int b] = some (.bl (decide (a ≤ b))) := rfl
theorem p_gt : prim .gt [.int a, .int b] = some (.bl (decide (b < a))) := rfl
theorem p_ge : prim .ge [.int a, .int b] = some (.bl (decide (b ≤ a))) := rfl
theorem p_eqi : prim .eq [.int a, .int b] = some (.bl (decide (a = b))) := rfl
theorem p_eqs : prim .eq [.str s, .str t] = some (.bl (decide (s = t))) := rfl
theorem p_nei : prim .ne [.int a, .int b] = some (.bl (!decide (a = b))) := rfl
theorem p_nes : prim .ne [.str s, .str t] = some (.bl (!decide (s = t))) := rfl
theorem p_idx : prim .idx [d, .int a] = idxP d a := rfl
theorem p_lenS : prim .len [.str s] = if s.length ≤ lim then some (.int s.length) else none := rfl
theorem p_lenL : prim .len [.nd .lst o xs] = some (.int xs.length) := rfl
theorem p_lenT : prim .len [.nd .tup o xs] = some (.int xs.length) := rfl
theorem p_lenC : prim .len [.nd .scr o xs] = some (.int xs.length) := rfl
theorem p_abs : prim .abs [.int a] = some (.int (if a < 0 then -a else a)) := rfl
theorem p_intb : prim .int [.bl x] = some (.int (if x then 1 else 0)) := rfl
theorem sl_z : okSlot 0 (d :: e) = !isHole d := rfl
theorem sl_s : okSlot (i + 1) (d :: e) = okSlot i e := rfl
theorem hoi : isHole (.int a) = false := rfl
theorem hos : isHole (.str s) = false := rfl
theorem hob : isHole (.bl x) = false := rfl
theorem hon : isHole .non = false := rfl
theorem hod {kd : Kd} : isHole (.nd kd o xs) = false := rfl
theorem fzi : fz (.int a) = true := rfl
theorem fzs : fz (.str s) = true := rfl
theorem fzb : fz (.bl x) = true := rfl
theorem idxL : idxP (.nd .lst o xs) a = (atI xs a).bind fun d => if fz d then some d else none := rfl
theorem idxC : idxP (.nd .scr o xs) a = (atI xs a).bind fun d => if fz d then some d else none := rfl
theorem idxT : idxP (.nd .tup o xs) a = (atI xs a).bind fun d => if fz d then some d else none := rfl
theorem idxS : idxP (.str s) a = if s.length ≤ lim then (atI s a).map fun c => .str [c] else none := rfl
theorem atI_nat {α : Type} (l : List α) (j : Nat) : atI l (j : Int) = l[j]? := by
  unfold atI ixN
  by_cases h : j < l.length
  · have h1 : (0 : Int) ≤ (j : Int) := by omega
    have h2 : (j : Int) < (l.length : Int) := by omega
    simp [h1, h2]
  · rw [List.getElem?_eq_none_iff.mpr (by omega)]
    have h1 : (0 : Int) ≤ (j : Int) := by omega
    have h2 : ¬ (j : Int) < (l.length : Int) := by omega
    simp [h2]
end
section
variable {P : Nat → Option Dfn} {k : Nat}
theorem fl_of {fx : List Nat} {n : Nat} {d : D} {outs : List D} {f : Fl} (h : OS { nx := fun e => d = .non ∧ n ≤ e.length ∧ outE fx 0 n e = outs, rt := fun d' e => d' = d ∧ n ≤ e.length ∧ outE fx 0 n e = outs } f) : flOut fx n f = .ok d outs := by
  cases f with
  | nx e => obtain ⟨h1, h2, h3⟩ := h; subst h1; simp only [flOut, if_pos h2, h3]
  | rt d' e => obtain ⟨h1, h2, h3⟩ := h; subst h1; simp only [flOut, if_pos h2, h3]
  | _ => exact h.elim
theorem OS_mono {q q' : Po} {f : Fl} (h : OS q f) (h1 : ∀ e, q.nx e → q'.nx e) (h2 : ∀ d e, q.rt d e → q'.rt d e) (h3 : ∀ e, q.bk e → q'.bk e) (h4 : ∀ e, q.ct e → q'.ct e) (h5 : ∀ w e, q.ex w e → q'.ex w e) : OS q' f := by
  cases f with
  | nx e => exact h1 e h
  | rt d e => exact h2 d e h
  | bk e => exact h3 e h
  | ct e => exact h4 e h
  | exc w e => exact h5 w e h
  | bad => exact h
theorem os_seq {G : Gam} {fx : List Nat} {env : List D} {q : Po} {s : Sm} {ss : List Sm} (R : List D → Prop) (h : OS { q with nx := R } (exec G s fx env)) (h2 : ∀ e, R e → OS q (execs G ss fx e)) : OS q (execs G (s :: ss) fx env) := by
  rw [os_cons]
  exact OS_mono h h2 (fun _ _ z => z) (fun _ z => z) (fun _ z => z) (fun _ _ z => z)
theorem cell_ok (h : P 1 = some d1) (o : Bool) (ns : List Int) (j : Nat) : (gam P (k + 1)).run 1 [.nd .lst o (ns.map .int), .int j] = .ok (.int (ns.getD j 0)) [.nd .lst o (ns.map .int), .int j] := by
  rw [run_eq h rfl (by decide) (by decide)]
  refine fl_of ?_
  show OS _ (execs (gam P k) [_, _] [0, 1] [_, _])
  simp only [ok_c, ok_g, ok_v, ok_mv, ok_pr, ok_fz, ok_and, ok_or, ok_not, NB_bl, ok_ite, ok_chn, ok_lst, ok_tup, ok_call, ok_mut, ok_slcv, oa_nil, oa_v, oa_c, oa_g, oa_pr, oa_mv, oa_and, oa_or, oa_not, oa_fz, oa_chn, oa_slc, oa_ite, oa_call, oa_mut, oa_lst, oa_tup, oa_comp, or_nil, or_rf, or_v, or_c, or_g, or_pr, or_mv, or_and, or_or, or_not, or_fz, or_chn, or_slc, or_ite, or_call, or_mut, or_lst, or_tup, or_comp, reduceCtorEq, os_nil, os_cons, os_asg, os_unp, os_exs, os_aug, os_ife, os_ret, os_retN, os_rse, os_brk, os_cnt, os_pas, os_kil, os_asgP, os_fors, oi_rng1, oi_rng2, oi_v, IN_int, IN2_int, SL_int, OK_ok, OS_nx, OS_rt, OS_bk, OS_ct, SM_some, SM_if, SM_map, SM_bind, BR_bl, Cn.d, List.getElem?_cons_zero, List.getElem?_cons_succ, sl_z, sl_s, hoi, hos, hob, hon, hod, fzi, fzs, fzb, p_add, p_adds, p_sub, p_mul, p_fdiv, p_mod, p_pow, p_neg, p_lt, p_le, p_gt, p_ge, p_eqi, p_eqs, p_nei, p_nes, p_idx, p_lenS, p_lenL, p_lenT, p_lenC, p_abs, p_intb, idxL, idxC, idxT, idxS, Bool.not_false, Bool.not_true, true_and, and_true, decide_eq_true_eq, List.set_cons_zero, List.set_cons_succ, ok_fin, ok_finx, rf_nil, rf_rf, pb_nil, pb_rf, rf_c, pb_c, rf_g, pb_g, rf_pr, pb_pr, rf_mv, pb_mv, rf_and, pb_and, rf_or, pb_or, rf_not, pb_not, rf_fz, pb_fz, rf_chn, pb_chn, rf_slc, pb_slc, rf_ite, pb_ite, rf_call, pb_call, rf_mut, pb_mut, rf_lst, pb_lst, rf_tup, pb_tup, rf_comp, pb_comp, rf_v, pb_v, frz_nd, frz_i, frz_s, frz_b, frz_n, frzs_n, frzs_c, frzs_int, frzs_str]
  by_cases hj : j < ns.length
  · have : (j : Int) < ((ns.map D.int).length : Int) := by simpa using hj
    simp [this, atI_nat, hj, SM, fz, d1, outE, isHole]
  · have : ¬ (j : Int) < ((ns.map D.int).length : Int) := by simpa using hj
    simp [this, d1, outE, hj]
/-! ### draws -/
def mix (c : Int) : Int :=
  if (if c < 0 then -c else c) < 10 ^ 18 then
    let one := (c * 48271 + 11).fmod 2147483647
    let two := (one * one + 40692 * one + c).fmod 2147483399
    let six := (two * 16807 + one).fmod 1000000007
    two + 2147483399 * (six + 1000000007 * one)
  else (if c < 0 then -c else c) - 10 ^ 18
def parts : Int → List Int → List Int
  | _, [] => []
  | c, p :: ps => c.fmod p :: parts (c.fdiv p) ps
def draws (c : Int) (ps : List Int) : List Int := parts (mix c) ps
def fdivs : Int → List Int → Int
  | c, [] => c
  | c, p :: ps => fdivs (c.fdiv p) ps
theorem fdivs_snoc (p : Int) : ∀ (ps : List Int) (c : Int), fdivs c (ps ++ [p]) = (fdivs c ps).fdiv p
  | [], c => rfl
  | q :: ps, c => fdivs_snoc p ps (c.fdiv q)
theorem parts_snoc (p : Int) : ∀ (ps : List Int) (c : Int), parts c (ps ++ [p]) = parts c ps ++ [(fdivs c ps).fmod p]
  | [], c => rfl
  | q :: ps, c => by simp only [List.cons_append, parts, fdivs]; rw [parts_snoc p ps]
theorem parts_len : ∀ (ps : List Int) (c : Int), (parts c ps).length = ps.length
  | [], c => rfl
  | q :: ps, c => by simp only [parts, List.length_cons]; rw [parts_len ps]
theorem fmod_b (a : Int) {m : Int} (h : 0 < m) : 0 ≤ a.fmod m ∧ a.fmod m < m := by
  rw [Int.fmod_eq_emod_of_nonneg a (by omega)]
  exact ⟨Int.emod_nonneg a (by omega), Int.emod_lt_of_pos a h⟩
theorem draws_ok (h : P 2 = some d2) (o : Bool) (c : Int) (ps : List Int) (hp : ∀ p ∈ ps, 0 < p ∧ p < 1073741824) (hl : ps.length ≤ 1000) :
    (gam P (k + 1)).run 2 [.int c, .nd .lst o (ps.map .int)] = .ok (.nd .lst true ((draws c ps).map .int)) [.hole, .nd .lst o (ps.map .int)] := by
  rw [run_eq h rfl (by decide) (by decide)]
  refine fl_of ?_
  show OS _ (execs (gam P k) [_, _, _, _] [1] [_, _, .hole, .hole, .hole, .hole, .hole])
  refine os_seq (fun e => ∃ y x2 x3 x4, e = [.int y, .nd .lst o (ps.map .int), x2, x3, x4, .hole, .hole] ∧ y = mix c) ?_ fun e he => ?_
  · simp only [ok_c, ok_g, ok_v, ok_mv, ok_pr, ok_fz, ok_and, ok_or, ok_not, NB_bl, ok_ite, ok_chn, ok_lst, ok_tup, ok_call, ok_mut, ok_slcv, oa_nil, oa_v, oa_c, oa_g, oa_pr, oa_mv, oa_and, oa_or, oa_not, oa_fz, oa_chn, oa_slc, oa_ite, oa_call, oa_mut, oa_lst, oa_tup, oa_comp, or_nil, or_rf, or_v, or_c, or_g, or_pr, or_mv, or_and, or_or, or_not, or_fz, or_chn, or_slc, or_ite, or_call, or_mut, or_lst, or_tup, or_comp, reduceCtorEq, os_nil, os_cons, os_asg, os_unp, os_exs, os_aug, os_ife, os_ret, os_retN, os_rse, os_brk, os_cnt, os_pas, os_kil, os_asgP, os_fors, oi_rng1, oi_rng2, oi_v, IN_int, IN2_int, SL_int, OK_ok, OS_nx, OS_rt, OS_bk, OS_ct, SM_some, SM_if, SM_map, SM_bind, BR_bl, Cn.d, List.getElem?_cons_zero, List.getElem?_cons_succ, sl_z, sl_s, hoi, hos, hob, hon, hod, fzi, fzs, fzb, p_add, p_adds, p_sub, p_mul, p_fdiv, p_mod, p_pow, p_neg, p_lt, p_le, p_gt, p_ge, p_eqi, p_eqs, p_nei, p_nes, p_idx, p_lenS, p_lenL, p_lenT, p_lenC, p_abs, p_intb, idxL, idxC, idxT, idxS, Bool.not_false, Bool.not_true, true_and, and_true, decide_eq_true_eq, List.set_cons_zero, List.set_cons_succ, ok_fin, ok_finx, rf_nil, rf_rf, pb_nil, pb_rf, rf_c, pb_c, rf_g, pb_g, rf_pr, pb_pr, rf_mv, pb_mv, rf_and, pb_and, rf_or, pb_or, rf_not, pb_not, rf_fz, pb_fz, rf_chn, pb_chn, rf_slc, pb_slc, rf_ite, pb_ite, rf_call, pb_call, rf_mut, pb_mut, rf_lst, pb_lst, rf_tup, pb_tup, rf_comp, pb_comp, rf_v, pb_v, frz_nd, frz_i, frz_s, frz_b, frz_n, frzs_n, frzs_c, frzs_int, frzs_str]
    refine ⟨by decide, ?_⟩
    have f1 := fmod_b (c * 48271 + 11) (m := 2147483647) (by decide)
    have e18 : (10 : Int) ^ Int.toNat 18 = 10 ^ 18 := rfl
    rw [e18]
    by_cases hlt : (if c < 0 then -c else c) < 10 ^ 18
    · rw [if_pos hlt]
      refine ⟨.inr (by decide), by decide, rfl, by simp, .inl (by omega), .inl (by decide), by decide, rfl, by simp, .inr (by decide), by decide, rfl, by simp, .inl (by decide), .inl (by decide), rfl, by simp, ?_⟩
      refine ⟨_, _, _, _, rfl, ?_⟩
      unfold mix
      rw [if_pos hlt]
    · rw [if_neg hlt]
      refine ⟨by decide, rfl, by simp, ?_⟩
      refine ⟨_, _, _, _, rfl, ?_⟩
      unfold mix
      rw [if_neg hlt]
  · obtain ⟨_, x2, x3, x4, rfl, rfl⟩ := he
    simp only [ok_c, ok_g, ok_v, ok_mv, ok_pr, ok_fz, ok_and, ok_or, ok_not, NB_bl, ok_ite, ok_chn, ok_lst, ok_tup, ok_call, ok_mut, ok_slcv, oa_nil, oa_v, oa_c, oa_g, oa_pr, oa_mv, oa_and, oa_or, oa_not, oa_fz, oa_chn, oa_slc, oa_ite, oa_call, oa_mut, oa_lst, oa_tup, oa_comp, or_nil, or_rf, or_v, or_c, or_g, or_pr, or_mv, or_and, or_or, or_not, or_fz, or_chn, or_slc, or_ite, or_call, or_mut, or_lst, or_tup, or_comp, reduceCtorEq, os_nil, os_cons, os_asg, os_unp, os_exs, os_aug, os_ife, os_ret, os_retN, os_rse, os_brk, os_cnt, os_pas, os_kil, os_asgP, os_fors, oi_rng1, oi_rng2, oi_v, IN_int, IN2_int, SL_int, OK_ok, OS_nx, OS_rt, OS_bk, OS_ct, SM_some, SM_if, SM_map, SM_bind, BR_bl, Cn.d, List.getElem?_cons_zero, List.getElem?_cons_succ, sl_z, sl_s, hoi, hos, hob, hon, hod, fzi, fzs, fzb, p_add, p_adds, p_sub, p_mul, p_fdiv, p_mod, p_pow, p_neg, p_lt, p_le, p_gt, p_ge, p_eqi, p_eqs, p_nei, p_nes, p_idx, p_lenS, p_lenL, p_lenT, p_lenC, p_abs, p_intb, idxL, idxC, idxT, idxS, Bool.not_false, Bool.not_true, true_and, and_true, decide_eq_true_eq, List.set_cons_zero, List.set_cons_succ, ok_fin, ok_finx, rf_nil, rf_rf, pb_nil, pb_rf, rf_c, pb_c, rf_g, pb_g, rf_pr, pb_pr, rf_mv, pb_mv, rf_and, pb_and, rf_or, pb_or, rf_not, pb_not, rf_fz, pb_fz, rf_chn, pb_chn, rf_slc, pb_slc, rf_ite, pb_ite, rf_call, pb_call, rf_mut, pb_mut, rf_lst, pb_lst, rf_tup, pb_tup, rf_comp, pb_comp, rf_v, pb_v, frz_nd, frz_i, frz_s, frz_b, frz_n, frzs_n, frzs_c, frzs_int, frzs_str]
    refine ⟨by simp [lim], rfl, by simp, ?_⟩
    simp only [seqSlot, SM_some]
    refine loop_rule (n := ps.length) (x := fun j => .int (ps.getD j 0)) (fun j e => ∃ x6, e = [.int (fdivs (mix c) (ps.take j)), .nd .lst o (ps.map .int), x2, x3, x4, .nd .lst true ((parts (mix c) (ps.take j)).map .int), x6]) (by unfold fuel; omega) ⟨_, rfl⟩ (fun j e hj he => ?_) (fun e he => ?_) (fun j e hj he => ?_) (fun e he => ?_)
    · obtain ⟨x6, rfl⟩ := he
      simp [itm, hj]
    · obtain ⟨x6, rfl⟩ := he
      simp [itm]
    · obtain ⟨x6, rfl⟩ := he
      have hpj := hp _ (List.getElem_mem hj)
      have eg : ps.getD j 0 = ps[j] := by simp [hj]
      rw [os_turn, eg]
      have et : ps.take (j + 1) = ps.take j ++ [ps[j]] := by rw [List.take_succ, List.getElem?_eq_getElem hj]; rfl
      rw [sb_one]
      refine ⟨rfl, rfl, by simp, ?_⟩
      simp only [ok_c, ok_g, ok_v, ok_mv, ok_pr, ok_fz, ok_and, ok_or, ok_not, NB_bl, ok_ite, ok_chn, ok_lst, ok_tup, ok_call, ok_mut, ok_slcv, oa_nil, oa_v, oa_c, oa_g, oa_pr, oa_mv, oa_and, oa_or, oa_not, oa_fz, oa_chn, oa_slc, oa_ite, oa_call, oa_mut, oa_lst, oa_tup, oa_comp, or_nil, or_rf, or_v, or_c, or_g, or_pr, or_mv, or_and, or_or, or_not, or_fz, or_chn, or_slc, or_ite, or_call, or_mut, or_lst, or_tup, or_comp, reduceCtorEq, os_nil, os_cons, os_asg, os_unp, os_exs, os_aug, os_ife, os_ret, os_retN, os_rse, os_brk, os_cnt, os_pas, os_kil, os_asgP, os_fors, oi_rng1, oi_rng2, oi_v, IN_int, IN2_int, SL_int, OK_ok, OS_nx, OS_rt, OS_bk, OS_ct, SM_some, SM_if, SM_map, SM_bind, BR_bl, Cn.d, List.getElem?_cons_zero, List.getElem?_cons_succ, sl_z, sl_s, hoi, hos, hob, hon, hod, fzi, fzs, fzb, p_add, p_adds, p_sub, p_mul, p_fdiv, p_mod, p_pow, p_neg, p_lt, p_le, p_gt, p_ge, p_eqi, p_eqs, p_nei, p_nes, p_idx, p_lenS, p_lenL, p_lenT, p_lenC, p_abs, p_intb, idxL, idxC, idxT, idxS, Bool.not_false, Bool.not_true, true_and, and_true, decide_eq_true_eq, List.set_cons_zero, List.set_cons_succ, ok_fin, ok_finx, rf_nil, rf_rf, pb_nil, pb_rf, rf_c, pb_c, rf_g, pb_g, rf_pr, pb_pr, rf_mv, pb_mv, rf_and, pb_and, rf_or, pb_or, rf_not, pb_not, rf_fz, pb_fz, rf_chn, pb_chn, rf_slc, pb_slc, rf_ite, pb_ite, rf_call, pb_call, rf_mut, pb_mut, rf_lst, pb_lst, rf_tup, pb_tup, rf_comp, pb_comp, rf_v, pb_v, frz_nd, frz_i, frz_s, frz_b, frz_n, frzs_n, frzs_c, frzs_int, frzs_str, itFx]
      have hb : (ps[j] : Int).natAbs < 1073741824 := by omega
      have hne : ps[j] ≠ 0 := by omega
      refine ⟨rfl, hne, ?_⟩
      have hlen : (List.map D.int (parts (mix c) (List.take j ps))).length < lim := by rw [List.length_map, parts_len, List.length_take]; unfold lim; omega
      simp only [muF, if_pos hlen, SM_some]
      refine ⟨⟨hne, hb⟩, rfl, by simp, .int ps[j], ?_⟩
      rw [et, fdivs_snoc, parts_snoc]
      simp
    · obtain ⟨x6, rfl⟩ := he
      simp only [ok_c, ok_g, ok_v, ok_mv, ok_pr, ok_fz, ok_and, ok_or, ok_not, NB_bl, ok_ite, ok_chn, ok_lst, ok_tup, ok_call, ok_mut, ok_slcv, oa_nil, oa_v, oa_c, oa_g, oa_pr, oa_mv, oa_and, oa_or, oa_not, oa_fz, oa_chn, oa_slc, oa_ite, oa_call, oa_mut, oa_lst, oa_tup, oa_comp, or_nil, or_rf, or_v, or_c, or_g, or_pr, or_mv, or_and, or_or, or_not, or_fz, or_chn, or_slc, or_ite, or_call, or_mut, or_lst, or_tup, or_comp, reduceCtorEq, os_nil, os_cons, os_asg, os_unp, os_exs, os_aug, os_ife, os_ret, os_retN, os_rse, os_brk, os_cnt, os_pas, os_kil, os_asgP, os_fors, oi_rng1, oi_rng2, oi_v, IN_int, IN2_int, SL_int, OK_ok, OS_nx, OS_rt, OS_bk, OS_ct, SM_some, SM_if, SM_map, SM_bind, BR_bl, Cn.d, List.getElem?_cons_zero, List.getElem?_cons_succ, sl_z, sl_s, hoi, hos, hob, hon, hod, fzi, fzs, fzb, p_add, p_adds, p_sub, p_mul, p_fdiv, p_mod, p_pow, p_neg, p_lt, p_le, p_gt, p_ge, p_eqi, p_eqs, p_nei, p_nes, p_idx, p_lenS, p_lenL, p_lenT, p_lenC, p_abs, p_intb, idxL, idxC, idxT, idxS, Bool.not_false, Bool.not_true, true_and, and_true, decide_eq_true_eq, List.set_cons_zero, List.set_cons_succ, ok_fin, ok_finx, rf_nil, rf_rf, pb_nil, pb_rf, rf_c, pb_c, rf_g, pb_g, rf_pr, pb_pr, rf_mv, pb_mv, rf_and, pb_and, rf_or, pb_or, rf_not, pb_not, rf_fz, pb_fz, rf_chn, pb_chn, rf_slc, pb_slc, rf_ite, pb_ite, rf_call, pb_call, rf_mut, pb_mut, rf_lst, pb_lst, rf_tup, pb_tup, rf_comp, pb_comp, rf_v, pb_v, frz_nd, frz_i, frz_s, frz_b, frz_n, frzs_n, frzs_c, frzs_int, frzs_str]
      simp [d2, outE, draws, isHole]
end
end Wap
set_option Elab.async false
set_option linter.all false
set_option maxRecDepth 100000
set_option maxHeartbeats 400000
/-! S4: more helpers of the laws. -/
namespace Wap
open PySem L2
section
variable {P : Nat → Option Dfn} {k : Nat}
theorem fdivs_nn : ∀ (ps : List Int) (c : Int), 0 ≤ c → (∀ p ∈ ps, 0 < p) → 0 ≤ fdivs c ps
  | [], c, h, _ => h
  | p :: ps, c, h, hp => fdivs_nn ps (c.fdiv p) (Int.fdiv_nonneg h (by have := hp p (by simp); omega)) fun q hq => hp q (by simp [hq])
theorem parts_get : ∀ (ps : List Int) (c : Int) (j : Nat), j < ps.length → (∀ p ∈ ps, 0 < p) → ∃ y : Nat, (parts c ps)[j]? = some (y : Int) ∧ (y : Int) < ps.getD j 0
  | [], c, j, h, _ => by simp at h
  | p :: ps, c, 0, _, hp => by
    have h := fmod_b c (hp p (by simp))
    exact ⟨(c.fmod p).toNat, by simp [parts]; omega, by simp; omega⟩
  | p :: ps, c, j + 1, h, hp => by
    obtain ⟨y, h1, h2⟩ := parts_get ps (c.fdiv p) j (by simpa using h) fun q hq => hp q (by simp [hq])
    exact ⟨y, by simpa [parts] using h1, by simpa using h2⟩
/-- what is drawn, as numbers from 0 -/
theorem draws_nat (c : Int) (ps : List Int) (hp : ∀ p ∈ ps, 0 < p) : ∃ ys : List Nat, (draws c ps) = ys.map Int.ofNat ∧ ys.length = ps.length ∧ ∀ j, j < ps.length → ((ys.getD j 0 : Nat) : Int) < ps.getD j 0 := by
  refine ⟨(draws c ps).map Int.toNat, ?_, by simp [draws, parts_len], fun j hj => ?_⟩
  · rw [List.map_map]
    apply List.ext_getElem?
    intro i
    rw [List.getElem?_map]
    by_cases hi : i < ps.length
    · obtain ⟨y, h1, _⟩ := parts_get ps (mix c) i hi hp
      rw [draws, h1]; simp
    · rw [List.getElem?_eq_none_iff.mpr (by rw [draws, parts_len]; omega)]; rfl
  · obtain ⟨y, h1, h2⟩ := parts_get ps (mix c) j hj hp
    simp only [draws]
    simp [h1]
    simpa using h2
theorem count_ok (h2 : P 2 = some d2) (h4 : P 4 = some d4) (c : Int) : ∃ n : Nat, 1 ≤ n ∧ n ≤ 12 ∧ (gam P (k + 2)).run 4 [.int c] = .ok (.int n) [.int c] := by
  obtain ⟨ys, e1, e2, e3⟩ := draws_nat c [13] (by decide)
  match ys, e2, e1, e3 with
  | [y], _, e1, e3 =>
    have hy : y < 13 := by have := e3 0 (by decide); simp at this; omega
    have hd := draws_ok (k := k) h2 false c [13] (by decide) (by decide)
    rw [e1] at hd
    have hr : ∀ n : Int, atI [D.int 3, .int 4, .int 5, .int 2, .int 6, .int 3, .int 12, .int 4, .int 1, .int 7, .int 5, .int 9, .int 4] (Int.ofNat y) = some (.int n) → (gam P (k + 2)).run 4 [.int c] = .ok (.int n) [.int c] := by
      intro n hn
      rw [run_eq h4 rfl (by decide) (by decide)]
      refine fl_of ?_
      show OS _ (execs (gam P (k + 1)) [_] [0] [_])
      simp only [ok_c, ok_g, ok_v, ok_mv, ok_pr, ok_fz, ok_and, ok_or, ok_not, NB_bl, ok_ite, ok_chn, ok_lst, ok_tup, ok_call, ok_mut, ok_slcv, oa_nil, oa_v, oa_c, oa_g, oa_pr, oa_mv, oa_and, oa_or, oa_not, oa_fz, oa_chn, oa_slc, oa_ite, oa_call, oa_mut, oa_lst, oa_tup, oa_comp, or_nil, or_rf, or_v, or_c, or_g, or_pr, or_mv, or_and, or_or, or_not, or_fz, or_chn, or_slc, or_ite, or_call, or_mut, or_lst, or_tup, or_comp, reduceCtorEq, os_nil, os_cons, os_asg, os_unp, os_exs, os_aug, os_ife, os_ret, os_retN, os_rse, os_brk, os_cnt, os_pas, os_kil, os_asgP, os_fors, oi_rng1, oi_rng2, oi_v, IN_int, IN2_int, SL_int, OK_ok, OS_nx, OS_rt, OS_bk, OS_ct, SM_some, SM_if, SM_map, SM_bind, BR_bl, Cn.d, List.getElem?_cons_zero, List.getElem?_cons_succ, sl_z, sl_s, hoi, hos, hob, hon, hod, fzi, fzs, fzb, p_add, p_adds, p_sub, p_mul, p_fdiv, p_mod, p_pow, p_neg, p_lt, p_le, p_gt, p_ge, p_eqi, p_eqs, p_nei, p_nes, p_idx, p_lenS, p_lenL, p_lenT, p_lenC, p_abs, p_intb, idxL, idxC, idxT, idxS, Bool.not_false, Bool.not_true, true_and, and_true, decide_eq_true_eq, List.set_cons_zero, List.set_cons_succ, ok_fin, ok_finx, rf_nil, rf_rf, pb_nil, pb_rf, rf_c, pb_c, rf_g, pb_g, rf_pr, pb_pr, rf_mv, pb_mv, rf_and, pb_and, rf_or, pb_or, rf_not, pb_not, rf_fz, pb_fz, rf_chn, pb_chn, rf_slc, pb_slc, rf_ite, pb_ite, rf_call, pb_call, rf_mut, pb_mut, rf_lst, pb_lst, rf_tup, pb_tup, rf_comp, pb_comp, rf_v, pb_v, frz_nd, frz_i, frz_s, frz_b, frz_n, frzs_n, frzs_c, frzs_int, frzs_str]
      refine ⟨by decide, by decide, ?_⟩
      rw [show [D.int 13] = List.map D.int [13] from rfl, hd]
      simp only [ok_c, ok_g, ok_v, ok_mv, ok_pr, ok_fz, ok_and, ok_or, ok_not, NB_bl, ok_ite, ok_chn, ok_lst, ok_tup, ok_call, ok_mut, ok_slcv, oa_nil, oa_v, oa_c, oa_g, oa_pr, oa_mv, oa_and, oa_or, oa_not, oa_fz, oa_chn, oa_slc, oa_ite, oa_call, oa_mut, oa_lst, oa_tup, oa_comp, or_nil, or_rf, or_v, or_c, or_g, or_pr, or_mv, or_and, or_or, or_not, or_fz, or_chn, or_slc, or_ite, or_call, or_mut, or_lst, or_tup, or_comp, reduceCtorEq, os_nil, os_cons, os_asg, os_unp, os_exs, os_aug, os_ife, os_ret, os_retN, os_rse, os_brk, os_cnt, os_pas, os_kil, os_asgP, os_fors, oi_rng1, oi_rng2, oi_v, IN_int, IN2_int, SL_int, OK_ok, OS_nx, OS_rt, OS_bk, OS_ct, SM_some, SM_if, SM_map, SM_bind, BR_bl, Cn.d, List.getElem?_cons_zero, List.getElem?_cons_succ, sl_z, sl_s, hoi, hos, hob, hon, hod, fzi, fzs, fzb, p_add, p_adds, p_sub, p_mul, p_fdiv, p_mod, p_pow, p_neg, p_lt, p_le, p_gt, p_ge, p_eqi, p_eqs, p_nei, p_nes, p_idx, p_lenS, p_lenL, p_lenT, p_lenC, p_abs, p_intb, idxL, idxC, idxT, idxS, Bool.not_false, Bool.not_true, true_and, and_true, decide_eq_true_eq, List.set_cons_zero, List.set_cons_succ, ok_fin, ok_finx, rf_nil, rf_rf, pb_nil, pb_rf, rf_c, pb_c, rf_g, pb_g, rf_pr, pb_pr, rf_mv, pb_mv, rf_and, pb_and, rf_or, pb_or, rf_not, pb_not, rf_fz, pb_fz, rf_chn, pb_chn, rf_slc, pb_slc, rf_ite, pb_ite, rf_call, pb_call, rf_mut, pb_mut, rf_lst, pb_lst, rf_tup, pb_tup, rf_comp, pb_comp, rf_v, pb_v, frz_nd, frz_i, frz_s, frz_b, frz_n, frzs_n, frzs_c, frzs_int, frzs_str, List.map_cons, List.map_nil]
      show SM _ (some (D.int (Int.ofNat y)))
      simp only [ok_c, ok_g, ok_v, ok_mv, ok_pr, ok_fz, ok_and, ok_or, ok_not, NB_bl, ok_ite, ok_chn, ok_lst, ok_tup, ok_call, ok_mut, ok_slcv, oa_nil, oa_v, oa_c, oa_g, oa_pr, oa_mv, oa_and, oa_or, oa_not, oa_fz, oa_chn, oa_slc, oa_ite, oa_call, oa_mut, oa_lst, oa_tup, oa_comp, or_nil, or_rf, or_v, or_c, or_g, or_pr, or_mv, or_and, or_or, or_not, or_fz, or_chn, or_slc, or_ite, or_call, or_mut, or_lst, or_tup, or_comp, reduceCtorEq, os_nil, os_cons, os_asg, os_unp, os_exs, os_aug, os_ife, os_ret, os_retN, os_rse, os_brk, os_cnt, os_pas, os_kil, os_asgP, os_fors, oi_rng1, oi_rng2, oi_v, IN_int, IN2_int, SL_int, OK_ok, OS_nx, OS_rt, OS_bk, OS_ct, SM_some, SM_if, SM_map, SM_bind, BR_bl, Cn.d, List.getElem?_cons_zero, List.getElem?_cons_succ, sl_z, sl_s, hoi, hos, hob, hon, hod, fzi, fzs, fzb, p_add, p_adds, p_sub, p_mul, p_fdiv, p_mod, p_pow, p_neg, p_lt, p_le, p_gt, p_ge, p_eqi, p_eqs, p_nei, p_nes, p_idx, p_lenS, p_lenL, p_lenT, p_lenC, p_abs, p_intb, idxL, idxC, idxT, idxS, Bool.not_false, Bool.not_true, true_and, and_true, decide_eq_true_eq, List.set_cons_zero, List.set_cons_succ, ok_fin, ok_finx, rf_nil, rf_rf, pb_nil, pb_rf, rf_c, pb_c, rf_g, pb_g, rf_pr, pb_pr, rf_mv, pb_mv, rf_and, pb_and, rf_or, pb_or, rf_not, pb_not, rf_fz, pb_fz, rf_chn, pb_chn, rf_slc, pb_slc, rf_ite, pb_ite, rf_call, pb_call, rf_mut, pb_mut, rf_lst, pb_lst, rf_tup, pb_tup, rf_comp, pb_comp, rf_v, pb_v, frz_nd, frz_i, frz_s, frz_b, frz_n, frzs_n, frzs_c, frzs_int, frzs_str, hn]
      simp [d4, outE]
    have hh : ∃ n : Nat, 1 ≤ n ∧ n ≤ 12 ∧ atI [D.int 3, .int 4, .int 5, .int 2, .int 6, .int 3, .int 12, .int 4, .int 1, .int 7, .int 5, .int 9, .int 4] (Int.ofNat y) = some (.int (n : Int)) := by
      clear hr hd e1 e3
      match y, hy with
      | 0, _ => exact ⟨3, by decide, by decide, rfl⟩
      | 1, _ => exact ⟨4, by decide, by decide, rfl⟩
      | 2, _ => exact ⟨5, by decide, by decide, rfl⟩
      | 3, _ => exact ⟨2, by decide, by decide, rfl⟩
      | 4, _ => exact ⟨6, by decide, by decide, rfl⟩
      | 5, _ => exact ⟨3, by decide, by decide, rfl⟩
      | 6, _ => exact ⟨12, by decide, by decide, rfl⟩
      | 7, _ => exact ⟨4, by decide, by decide, rfl⟩
      | 8, _ => exact ⟨1, by decide, by decide, rfl⟩
      | 9, _ => exact ⟨7, by decide, by decide, rfl⟩
      | 10, _ => exact ⟨5, by decide, by decide, rfl⟩
      | 11, _ => exact ⟨9, by decide, by decide, rfl⟩
      | 12, _ => exact ⟨4, by decide, by decide, rfl⟩
      | n + 13, h => omega
    obtain ⟨n, h1, h2, h3⟩ := hh
    exact ⟨n, h1, h2, hr n h3⟩
theorem not_ok (h5 : P 5 = some d5) (s : List Nat) : (gam P (k + 1)).run 5 [.str s] = .ok (.str (if s = [121] then [110] else [121])) [.str s] := by
  rw [run_eq h5 rfl (by decide) (by decide)]
  refine fl_of ?_
  show OS _ (execs (gam P k) [_] [0] [_])
  simp only [ok_c, ok_g, ok_v, ok_mv, ok_pr, ok_fz, ok_and, ok_or, ok_not, NB_bl, ok_ite, ok_chn, ok_lst, ok_tup, ok_call, ok_mut, ok_slcv, oa_nil, oa_v, oa_c, oa_g, oa_pr, oa_mv, oa_and, oa_or, oa_not, oa_fz, oa_chn, oa_slc, oa_ite, oa_call, oa_mut, oa_lst, oa_tup, oa_comp, or_nil, or_rf, or_v, or_c, or_g, or_pr, or_mv, or_and, or_or, or_not, or_fz, or_chn, or_slc, or_ite, or_call, or_mut, or_lst, or_tup, or_comp, reduceCtorEq, os_nil, os_cons, os_asg, os_unp, os_exs, os_aug, os_ife, os_ret, os_retN, os_rse, os_brk, os_cnt, os_pas, os_kil, os_asgP, os_fors, oi_rng1, oi_rng2, oi_v, IN_int, IN2_int, SL_int, OK_ok, OS_nx, OS_rt, OS_bk, OS_ct, SM_some, SM_if, SM_map, SM_bind, BR_bl, Cn.d, List.getElem?_cons_zero, List.getElem?_cons_succ, sl_z, sl_s, hoi, hos, hob, hon, hod, fzi, fzs, fzb, p_add, p_adds, p_sub, p_mul, p_fdiv, p_mod, p_pow, p_neg, p_lt, p_le, p_gt, p_ge, p_eqi, p_eqs, p_nei, p_nes, p_idx, p_lenS, p_lenL, p_lenT, p_lenC, p_abs, p_intb, idxL, idxC, idxT, idxS, Bool.not_false, Bool.not_true, true_and, and_true, decide_eq_true_eq, List.set_cons_zero, List.set_cons_succ, ok_fin, ok_finx, rf_nil, rf_rf, pb_nil, pb_rf, rf_c, pb_c, rf_g, pb_g, rf_pr, pb_pr, rf_mv, pb_mv, rf_and, pb_and, rf_or, pb_or, rf_not, pb_not, rf_fz, pb_fz, rf_chn, pb_chn, rf_slc, pb_slc, rf_ite, pb_ite, rf_call, pb_call, rf_mut, pb_mut, rf_lst, pb_lst, rf_tup, pb_tup, rf_comp, pb_comp, rf_v, pb_v, frz_nd, frz_i, frz_s, frz_b, frz_n, frzs_n, frzs_c, frzs_int, frzs_str]
  by_cases hs : s = [121] <;> simp [hs, d5, outE]
end
end Wap
set_option Elab.async false
set_option linter.all false
set_option maxRecDepth 100000
set_option maxHeartbeats 400000
/-! S5: rows. -/
namespace Wap
open PySem L2
theorem fl_ex {fx : List Nat} {n : Nat} {R : D → List D → Prop} {f : Fl} (h : OS { nx := fun e => n ≤ e.length ∧ R .non (outE fx 0 n e), rt := fun d e => n ≤ e.length ∧ R d (outE fx 0 n e) } f) : ∃ d outs, flOut fx n f = .ok d outs ∧ R d outs := by
  cases f with
  | nx e => obtain ⟨h1, h2⟩ := h; exact ⟨_, _, by simp only [flOut, if_pos h1], h2⟩
  | rt d' e => obtain ⟨h1, h2⟩ := h; exact ⟨_, _, by simp only [flOut, if_pos h1], h2⟩
  | _ => exact h.elim
theorem atI_in {α : Type} (xs : List α) (r : Int) (h0 : 0 ≤ r) (h1 : r < xs.length) : ∃ d, atI xs r = some d ∧ d ∈ xs := by
  obtain ⟨n, rfl⟩ := Int.eq_ofNat_of_zero_le h0
  have hn : n < xs.length := by omega
  exact ⟨xs[n], by rw [atI_nat, List.getElem?_eq_getElem hn], List.getElem_mem hn⟩
/-- a text of y and n -/
def YN (s : List Nat) : Prop := ∀ c ∈ s, c = 110 ∨ c = 121
def Y1 (s : List Nat) : Prop := s = [110] ∨ s = [121]
theorem Y1.yn {s : List Nat} (h : Y1 s) : YN s ∧ s.length = 1 := by rcases h with rfl | rfl <;> simp [YN]
theorem ny_idx (r : Int) (h : 0 ≤ r ∧ r < 2) : ∃ s, Y1 s ∧ idxP (.str [110, 121]) r = some (.str s) := by
  obtain ⟨c, h1, h2⟩ := atI_in [110, 121] r h.1 (by simpa using h.2)
  refine ⟨[c], ?_, ?_⟩
  · simp at h2; rcases h2 with rfl | rfl <;> simp [Y1]
  · rw [idxS, if_pos (by decide), h1]; rfl
theorem ny01 (p : Prop) [Decidable p] : ∃ c, Y1 [c] ∧ atI [110, 121] (if p then (1 : Int) else 0) = some c := by
  by_cases h : p
  · exact ⟨121, .inr rfl, by rw [if_pos h]; rfl⟩
  · exact ⟨110, .inl rfl, by rw [if_neg h]; rfl⟩
theorem ny2 (r : Int) (h : 0 ≤ r ∧ r < 2) : ∃ c, Y1 [c] ∧ atI [110, 121] r = some c := by
  obtain ⟨c, h1, h2⟩ := atI_in [110, 121] r h.1 (by simpa using h.2)
  exact ⟨c, by simp at h2; rcases h2 with rfl | rfl <;> simp [Y1], h1⟩
theorem yn_idx (r : Int) (h : 0 ≤ r ∧ r < 2) : ∃ s, Y1 s ∧ idxP (.str [121, 110]) r = some (.str s) := by
  obtain ⟨c, h1, h2⟩ := atI_in [121, 110] r h.1 (by simpa using h.2)
  refine ⟨[c], ?_, ?_⟩
  · simp at h2; rcases h2 with rfl | rfl <;> simp [Y1]
  · rw [idxS, if_pos (by decide), h1]; rfl
/-- a sign of a row -/
theorem row_idx {row : List Nat} (hr : YN row) (hl : row.length ≤ 1000) (r : Int) (h : 0 ≤ r ∧ r < row.length) : ∃ s, Y1 s ∧ idxP (.str row) r = some (.str s) := by
  obtain ⟨c, h1, h2⟩ := atI_in row r h.1 h.2
  refine ⟨[c], ?_, ?_⟩
  · rcases hr c h2 with rfl | rfl <;> simp [Y1]
  · rw [idxS, if_pos (by unfold lim; omega), h1]; rfl
section
variable {P : Nat → Option Dfn} {k : Nat}
theorem bits_ok (h7 : P 7 = some d7) (num : Int) (n : Nat) (hn : n ≤ 1000) : ∃ row, (gam P (k + 1)).run 7 [.int num, .int n] = .ok (.str row) [.hole, .int n] ∧ row.length = n ∧ YN row := by
  rw [run_eq h7 rfl (by decide) (by decide)]
  suffices h : ∃ d outs, flOut d7.fx d7.np (execs (gam P k) d7.body d7.fx (startE d7.ns [.int num, .int n])) = .ok d outs ∧ ∃ row, d = .str row ∧ outs = [.hole, .int n] ∧ row.length = n ∧ YN row by
    obtain ⟨d, outs, h1, row, rfl, rfl, h2, h3⟩ := h
    exact ⟨row, h1, h2, h3⟩
  refine fl_ex ?_
  show OS _ (execs (gam P k) [_, _, _] [1] [_, _, .hole, .hole])
  simp only [ok_c, ok_g, ok_v, ok_mv, ok_pr, ok_fz, ok_and, ok_or, ok_not, NB_bl, ok_ite, ok_chn, ok_lst, ok_tup, ok_call, ok_mut, ok_slcv, oa_nil, oa_v, oa_c, oa_g, oa_pr, oa_mv, oa_and, oa_or, oa_not, oa_fz, oa_chn, oa_slc, oa_ite, oa_call, oa_mut, oa_lst, oa_tup, oa_comp, or_nil, or_rf, or_v, or_c, or_g, or_pr, or_mv, or_and, or_or, or_not, or_fz, or_chn, or_slc, or_ite, or_call, or_mut, or_lst, or_tup, or_comp, reduceCtorEq, os_nil, os_cons, os_asg, os_unp, os_exs, os_aug, os_ife, os_ret, os_retN, os_rse, os_brk, os_cnt, os_pas, os_kil, os_asgP, os_fors, oi_rng1, oi_rng2, oi_v, IN_int, IN2_int, SL_int, OK_ok, OS_nx, OS_rt, OS_bk, OS_ct, SM_some, SM_if, SM_map, SM_bind, BR_bl, Cn.d, List.getElem?_cons_zero, List.getElem?_cons_succ, sl_z, sl_s, hoi, hos, hob, hon, hod, fzi, fzs, fzb, p_add, p_adds, p_sub, p_mul, p_fdiv, p_mod, p_pow, p_neg, p_lt, p_le, p_gt, p_ge, p_eqi, p_eqs, p_nei, p_nes, p_idx, p_lenS, p_lenL, p_lenT, p_lenC, p_abs, p_intb, idxL, idxC, idxT, idxS, Bool.not_false, Bool.not_true, true_and, and_true, decide_eq_true_eq, List.set_cons_zero, List.set_cons_succ, ok_fin, ok_finx, rf_nil, rf_rf, pb_nil, pb_rf, rf_c, pb_c, rf_g, pb_g, rf_pr, pb_pr, rf_mv, pb_mv, rf_and, pb_and, rf_or, pb_or, rf_not, pb_not, rf_fz, pb_fz, rf_chn, pb_chn, rf_slc, pb_slc, rf_ite, pb_ite, rf_call, pb_call, rf_mut, pb_mut, rf_lst, pb_lst, rf_tup, pb_tup, rf_comp, pb_comp, rf_v, pb_v, frz_nd, frz_i, frz_s, frz_b, frz_n, frzs_n, frzs_c, frzs_int, frzs_str]
  refine ⟨rfl, by simp, by simp [small]; omega, ?_⟩
  refine loop_rule (n := n) (x := fun j => .int j) (fun j e => ∃ row m x3, row.length = j ∧ YN row ∧ e = [.int m, .int n, .str row, x3]) (by unfold fuel; omega) ⟨[], _, _, rfl, by simp [YN], rfl⟩ (fun j e hj he => ?_) (fun e he => ?_) (fun j e hj he => ?_) (fun e he => ?_)
  · simp [itm, hj]
  · simp [itm]
  · obtain ⟨row, m, x3, hl, hy, rfl⟩ := he
    rw [os_turn, sb_one]
    refine ⟨rfl, rfl, by simp, ?_⟩
    obtain ⟨s, hs, es⟩ := ny_idx (m.fmod 2) (fmod_b m (by decide))
    have hs1 := hs.yn
    simp only [ok_c, ok_g, ok_v, ok_mv, ok_pr, ok_fz, ok_and, ok_or, ok_not, NB_bl, ok_ite, ok_chn, ok_lst, ok_tup, ok_call, ok_mut, ok_slcv, oa_nil, oa_v, oa_c, oa_g, oa_pr, oa_mv, oa_and, oa_or, oa_not, oa_fz, oa_chn, oa_slc, oa_ite, oa_call, oa_mut, oa_lst, oa_tup, oa_comp, or_nil, or_rf, or_v, or_c, or_g, or_pr, or_mv, or_and, or_or, or_not, or_fz, or_chn, or_slc, or_ite, or_call, or_mut, or_lst, or_tup, or_comp, reduceCtorEq, os_nil, os_cons, os_asg, os_unp, os_exs, os_aug, os_ife, os_ret, os_retN, os_rse, os_brk, os_cnt, os_pas, os_kil, os_asgP, os_fors, oi_rng1, oi_rng2, oi_v, IN_int, IN2_int, SL_int, OK_ok, OS_nx, OS_rt, OS_bk, OS_ct, SM_some, SM_if, SM_map, SM_bind, BR_bl, Cn.d, List.getElem?_cons_zero, List.getElem?_cons_succ, sl_z, sl_s, hoi, hos, hob, hon, hod, fzi, fzs, fzb, p_add, p_adds, p_sub, p_mul, p_fdiv, p_mod, p_pow, p_neg, p_lt, p_le, p_gt, p_ge, p_eqi, p_eqs, p_nei, p_nes, p_idx, p_lenS, p_lenL, p_lenT, p_lenC, p_abs, p_intb, idxL, idxC, idxT, idxS, Bool.not_false, Bool.not_true, true_and, and_true, decide_eq_true_eq, List.set_cons_zero, List.set_cons_succ, ok_fin, ok_finx, rf_nil, rf_rf, pb_nil, pb_rf, rf_c, pb_c, rf_g, pb_g, rf_pr, pb_pr, rf_mv, pb_mv, rf_and, pb_and, rf_or, pb_or, rf_not, pb_not, rf_fz, pb_fz, rf_chn, pb_chn, rf_slc, pb_slc, rf_ite, pb_ite, rf_call, pb_call, rf_mut, pb_mut, rf_lst, pb_lst, rf_tup, pb_tup, rf_comp, pb_comp, rf_v, pb_v, frz_nd, frz_i, frz_s, frz_b, frz_n, frzs_n, frzs_c, frzs_int, frzs_str, itFx, es]
    refine ⟨by decide, by rw [hs1.2]; unfold lim; omega, rfl, by simp, ⟨by decide, by decide⟩, rfl, by simp, ?_⟩
    exact ⟨_, _, _, by rw [List.length_append, hl, hs1.2], fun c hc => (List.mem_append.mp hc).elim (hy c) (hs1.1 c), rfl⟩
  · obtain ⟨row, m, x3, hl, hy, rfl⟩ := he
    simp only [ok_c, ok_g, ok_v, ok_mv, ok_pr, ok_fz, ok_and, ok_or, ok_not, NB_bl, ok_ite, ok_chn, ok_lst, ok_tup, ok_call, ok_mut, ok_slcv, oa_nil, oa_v, oa_c, oa_g, oa_pr, oa_mv, oa_and, oa_or, oa_not, oa_fz, oa_chn, oa_slc, oa_ite, oa_call, oa_mut, oa_lst, oa_tup, oa_comp, or_nil, or_rf, or_v, or_c, or_g, or_pr, or_mv, or_and, or_or, or_not, or_fz, or_chn, or_slc, or_ite, or_call, or_mut, or_lst, or_tup, or_comp, reduceCtorEq, os_nil, os_cons, os_asg, os_unp, os_exs, os_aug, os_ife, os_ret, os_retN, os_rse, os_brk, os_cnt, os_pas, os_kil, os_asgP, os_fors, oi_rng1, oi_rng2, oi_v, IN_int, IN2_int, SL_int, OK_ok, OS_nx, OS_rt, OS_bk, OS_ct, SM_some, SM_if, SM_map, SM_bind, BR_bl, Cn.d, List.getElem?_cons_zero, List.getElem?_cons_succ, sl_z, sl_s, hoi, hos, hob, hon, hod, fzi, fzs, fzb, p_add, p_adds, p_sub, p_mul, p_fdiv, p_mod, p_pow, p_neg, p_lt, p_le, p_gt, p_ge, p_eqi, p_eqs, p_nei, p_nes, p_idx, p_lenS, p_lenL, p_lenT, p_lenC, p_abs, p_intb, idxL, idxC, idxT, idxS, Bool.not_false, Bool.not_true, true_and, and_true, decide_eq_true_eq, List.set_cons_zero, List.set_cons_succ, ok_fin, ok_finx, rf_nil, rf_rf, pb_nil, pb_rf, rf_c, pb_c, rf_g, pb_g, rf_pr, pb_pr, rf_mv, pb_mv, rf_and, pb_and, rf_or, pb_or, rf_not, pb_not, rf_fz, pb_fz, rf_chn, pb_chn, rf_slc, pb_slc, rf_ite, pb_ite, rf_call, pb_call, rf_mut, pb_mut, rf_lst, pb_lst, rf_tup, pb_tup, rf_comp, pb_comp, rf_v, pb_v, frz_nd, frz_i, frz_s, frz_b, frz_n, frzs_n, frzs_c, frzs_int, frzs_str]
    refine ⟨by simp [d7], row, rfl, ?_, hl, hy⟩
    simp [d7, outE]
theorem mu_app {xs : List D} {d : D} (h : xs.length < lim) : muF .append xs [d] = some (.non, xs ++ [d]) := by
  show (if xs.length < lim then some (D.non, xs ++ [d]) else none) = _
  rw [if_pos h]
theorem strs_of {n : Nat} {T : Nat → D → Prop} {ys : List D} (hl : ys.length = n) (h : ∀ j y, ys[j]? = some y → T j y) (hT : ∀ j y, T j y → ∃ s, Y1 s ∧ y = .str s) : ∃ l : List (List Nat), ys = l.map .str ∧ l.length = n ∧ ∀ s ∈ l, Y1 s := by
  have : ∀ ys : List D, (∀ y ∈ ys, ∃ s, Y1 s ∧ y = .str s) → ∃ l : List (List Nat), ys = l.map .str ∧ ∀ s ∈ l, Y1 s := by
    intro ys
    induction ys with
    | nil => exact fun _ => ⟨[], rfl, by simp⟩
    | cons y ys ih =>
      intro hy
      obtain ⟨s, h1, rfl⟩ := hy y (by simp)
      obtain ⟨l, rfl, h2⟩ := ih fun z hz => hy z (by simp [hz])
      exact ⟨s :: l, rfl, fun t ht => by rcases List.mem_cons.mp ht with rfl | ht; exact h1; exact h2 t ht⟩
  obtain ⟨l, rfl, h2⟩ := this ys fun y hy => by
    obtain ⟨j, hj⟩ := List.getElem?_of_mem hy
    exact hT j y (h j y hj)
  exact ⟨l, rfl, by simpa using hl, h2⟩
/-- the hidden row -/
theorem hidden_ok (h6 : P 6 = some d6) (p0 num : Int) (ps : List D) (m : Nat) (h1 : 1 ≤ m) (hm : m ≤ 1000) :
    ∃ l : List (List Nat), (gam P (k + 1)).run 6 [.nd .lst false (.int p0 :: ps), .int m, .int num] = .ok (.nd .lst true (l.map .str)) [.nd .lst false (.int p0 :: ps), .int m, .int num] ∧ l.length = m ∧ ∀ s ∈ l, Y1 s := by
  rw [run_eq h6 rfl (by decide) (by decide)]
  suffices h : ∃ d outs, flOut d6.fx d6.np (execs (gam P k) d6.body d6.fx (startE d6.ns [.nd .lst false (.int p0 :: ps), .int m, .int num])) = .ok d outs ∧ ∃ l : List (List Nat), d = .nd .lst true (l.map .str) ∧ outs = [.nd .lst false (.int p0 :: ps), .int m, .int num] ∧ l.length = m ∧ ∀ s ∈ l, Y1 s by
    obtain ⟨d, outs, h1, row, rfl, rfl, h2, h3⟩ := h
    exact ⟨row, h1, h2, h3⟩
  refine fl_ex ?_
  show OS _ (execs (gam P k) [_, _, _, _, _, _] [0, 1, 2] [_, _, _, .hole, .hole, .hole])
  have i0 : atI (D.int p0 :: ps) 0 = some (.int p0) := atI_nat (D.int p0 :: ps) 0
  have b01 : ∀ c : Bool, (0 : Int) ≤ (if c = true then 1 else 0) ∧ (if c = true then (1 : Int) else 0) < 2 := fun c => by cases c <;> decide
  have sm : small (m : Int) = true := by simp [small]; omega
  have m1 : (m : Int) + 1 ≠ 0 := by omega
  have out : ∀ x3 x4 x5 : D, d6.np ≤ [D.nd .lst false (.int p0 :: ps), .int (m : Int), .int num, x3, x4, x5].length ∧ outE d6.fx 0 d6.np [D.nd .lst false (.int p0 :: ps), .int (m : Int), .int num, x3, x4, x5] = [.nd .lst false (.int p0 :: ps), .int m, .int num] := fun _ _ _ => ⟨by simp [d6], by simp [d6, outE]⟩
  rw [os_cons]
  simp only [ok_c, ok_g, ok_v, ok_mv, ok_pr, ok_fz, ok_and, ok_or, ok_not, NB_bl, ok_ite, ok_chn, ok_lst, ok_tup, ok_call, ok_mut, ok_slcv, oa_nil, oa_v, oa_c, oa_g, oa_pr, oa_mv, oa_and, oa_or, oa_not, oa_fz, oa_chn, oa_slc, oa_ite, oa_call, oa_mut, oa_lst, oa_tup, oa_comp, or_nil, or_rf, or_v, or_c, or_g, or_pr, or_mv, or_and, or_or, or_not, or_fz, or_chn, or_slc, or_ite, or_call, or_mut, or_lst, or_tup, or_comp, reduceCtorEq, os_nil, os_cons, os_asg, os_unp, os_exs, os_aug, os_ife, os_ret, os_retN, os_rse, os_brk, os_cnt, os_pas, os_kil, os_asgP, os_fors, oi_rng1, oi_rng2, oi_v, IN_int, IN2_int, SL_int, OK_ok, OS_nx, OS_rt, OS_bk, OS_ct, SM_some, SM_if, SM_map, SM_bind, BR_bl, Cn.d, List.getElem?_cons_zero, List.getElem?_cons_succ, sl_z, sl_s, hoi, hos, hob, hon, hod, fzi, fzs, fzb, p_add, p_adds, p_sub, p_mul, p_fdiv, p_mod, p_pow, p_neg, p_lt, p_le, p_gt, p_ge, p_eqi, p_eqs, p_nei, p_nes, p_idx, p_lenS, p_lenL, p_lenT, p_lenC, p_abs, p_intb, idxL, idxC, idxT, idxS, Bool.not_false, Bool.not_true, true_and, and_true, decide_eq_true_eq, List.set_cons_zero, List.set_cons_succ, ok_fin, ok_finx, rf_nil, rf_rf, pb_nil, pb_rf, rf_c, pb_c, rf_g, pb_g, rf_pr, pb_pr, rf_mv, pb_mv, rf_and, pb_and, rf_or, pb_or, rf_not, pb_not, rf_fz, pb_fz, rf_chn, pb_chn, rf_slc, pb_slc, rf_ite, pb_ite, rf_call, pb_call, rf_mut, pb_mut, rf_lst, pb_lst, rf_tup, pb_tup, rf_comp, pb_comp, rf_v, pb_v, frz_nd, frz_i, frz_s, frz_b, frz_n, frzs_n, frzs_c, frzs_int, frzs_str, i0]
  by_cases c1 : p0 = 1
  · rw [if_pos c1]
    refine ok_compR (n := m) (fun j => .int j) (fun _ y => ∃ s, Y1 s ∧ y = .str s) (by unfold lim; omega) (by simp [tgIn, isHole]) ?_ fun ys hl hy => ?_
    · simp only [ok_c, ok_g, ok_v, ok_mv, ok_pr, ok_fz, ok_and, ok_or, ok_not, NB_bl, ok_ite, ok_chn, ok_lst, ok_tup, ok_call, ok_mut, ok_slcv, oa_nil, oa_v, oa_c, oa_g, oa_pr, oa_mv, oa_and, oa_or, oa_not, oa_fz, oa_chn, oa_slc, oa_ite, oa_call, oa_mut, oa_lst, oa_tup, oa_comp, or_nil, or_rf, or_v, or_c, or_g, or_pr, or_mv, or_and, or_or, or_not, or_fz, or_chn, or_slc, or_ite, or_call, or_mut, or_lst, or_tup, or_comp, reduceCtorEq, os_nil, os_cons, os_asg, os_unp, os_exs, os_aug, os_ife, os_ret, os_retN, os_rse, os_brk, os_cnt, os_pas, os_kil, os_asgP, os_fors, oi_rng1, oi_rng2, oi_v, IN_int, IN2_int, SL_int, OK_ok, OS_nx, OS_rt, OS_bk, OS_ct, SM_some, SM_if, SM_map, SM_bind, BR_bl, Cn.d, List.getElem?_cons_zero, List.getElem?_cons_succ, sl_z, sl_s, hoi, hos, hob, hon, hod, fzi, fzs, fzb, p_add, p_adds, p_sub, p_mul, p_fdiv, p_mod, p_pow, p_neg, p_lt, p_le, p_gt, p_ge, p_eqi, p_eqs, p_nei, p_nes, p_idx, p_lenS, p_lenL, p_lenT, p_lenC, p_abs, p_intb, idxL, idxC, idxT, idxS, Bool.not_false, Bool.not_true, true_and, and_true, decide_eq_true_eq, List.set_cons_zero, List.set_cons_succ, ok_fin, ok_finx, rf_nil, rf_rf, pb_nil, pb_rf, rf_c, pb_c, rf_g, pb_g, rf_pr, pb_pr, rf_mv, pb_mv, rf_and, pb_and, rf_or, pb_or, rf_not, pb_not, rf_fz, pb_fz, rf_chn, pb_chn, rf_slc, pb_slc, rf_ite, pb_ite, rf_call, pb_call, rf_mut, pb_mut, rf_lst, pb_lst, rf_tup, pb_tup, rf_comp, pb_comp, rf_v, pb_v, frz_nd, frz_i, frz_s, frz_b, frz_n, frzs_n, frzs_c, frzs_int, frzs_str]
      refine ⟨sm, fun j hj => by simp [itm, hj], by simp [itm], fun j hj => ?_⟩
      rw [sb_one]
      refine ⟨rfl, rfl, by simp [kills], ?_⟩
      obtain ⟨c, hc, ec⟩ := ny01 ((j : Int) < num.fmod (m + 1))
      simp only [ok_c, ok_g, ok_v, ok_mv, ok_pr, ok_fz, ok_and, ok_or, ok_not, NB_bl, ok_ite, ok_chn, ok_lst, ok_tup, ok_call, ok_mut, ok_slcv, oa_nil, oa_v, oa_c, oa_g, oa_pr, oa_mv, oa_and, oa_or, oa_not, oa_fz, oa_chn, oa_slc, oa_ite, oa_call, oa_mut, oa_lst, oa_tup, oa_comp, or_nil, or_rf, or_v, or_c, or_g, or_pr, or_mv, or_and, or_or, or_not, or_fz, or_chn, or_slc, or_ite, or_call, or_mut, or_lst, or_tup, or_comp, reduceCtorEq, os_nil, os_cons, os_asg, os_unp, os_exs, os_aug, os_ife, os_ret, os_retN, os_rse, os_brk, os_cnt, os_pas, os_kil, os_asgP, os_fors, oi_rng1, oi_rng2, oi_v, IN_int, IN2_int, SL_int, OK_ok, OS_nx, OS_rt, OS_bk, OS_ct, SM_some, SM_if, SM_map, SM_bind, BR_bl, Cn.d, List.getElem?_cons_zero, List.getElem?_cons_succ, sl_z, sl_s, hoi, hos, hob, hon, hod, fzi, fzs, fzb, p_add, p_adds, p_sub, p_mul, p_fdiv, p_mod, p_pow, p_neg, p_lt, p_le, p_gt, p_ge, p_eqi, p_eqs, p_nei, p_nes, p_idx, p_lenS, p_lenL, p_lenT, p_lenC, p_abs, p_intb, idxL, idxC, idxT, idxS, Bool.not_false, Bool.not_true, true_and, and_true, decide_eq_true_eq, List.set_cons_zero, List.set_cons_succ, ok_fin, ok_finx, rf_nil, rf_rf, pb_nil, pb_rf, rf_c, pb_c, rf_g, pb_g, rf_pr, pb_pr, rf_mv, pb_mv, rf_and, pb_and, rf_or, pb_or, rf_not, pb_not, rf_fz, pb_fz, rf_chn, pb_chn, rf_slc, pb_slc, rf_ite, pb_ite, rf_call, pb_call, rf_mut, pb_mut, rf_lst, pb_lst, rf_tup, pb_tup, rf_comp, pb_comp, rf_v, pb_v, frz_nd, frz_i, frz_s, frz_b, frz_n, frzs_n, frzs_c, frzs_int, frzs_str, itFx, kills, List.foldl_cons, List.foldl_nil, ec]
      exact ⟨m1, by decide, [c], hc, rfl⟩
    · obtain ⟨l, rfl, hl2, hs⟩ := strs_of hl hy fun _ _ h => h
      exact ⟨rfl, (out _ _ _).1, l, rfl, (out _ _ _).2, hl2, hs⟩
  · rw [if_neg c1]
    by_cases c2 : p0 = 2
    · rw [if_pos c2]
      refine ⟨m1, by decide, m1, by simp [isHole, lim], rfl, by simp, ?_⟩
      refine ok_compR (n := m) (fun j => .int j) (fun _ y => ∃ s, Y1 s ∧ y = .str s) (by unfold lim; omega) (by simp [tgIn, isHole]) ?_ fun ys hl hy => ?_
      · simp only [ok_c, ok_g, ok_v, ok_mv, ok_pr, ok_fz, ok_and, ok_or, ok_not, NB_bl, ok_ite, ok_chn, ok_lst, ok_tup, ok_call, ok_mut, ok_slcv, oa_nil, oa_v, oa_c, oa_g, oa_pr, oa_mv, oa_and, oa_or, oa_not, oa_fz, oa_chn, oa_slc, oa_ite, oa_call, oa_mut, oa_lst, oa_tup, oa_comp, or_nil, or_rf, or_v, or_c, or_g, or_pr, or_mv, or_and, or_or, or_not, or_fz, or_chn, or_slc, or_ite, or_call, or_mut, or_lst, or_tup, or_comp, reduceCtorEq, os_nil, os_cons, os_asg, os_unp, os_exs, os_aug, os_ife, os_ret, os_retN, os_rse, os_brk, os_cnt, os_pas, os_kil, os_asgP, os_fors, oi_rng1, oi_rng2, oi_v, IN_int, IN2_int, SL_int, OK_ok, OS_nx, OS_rt, OS_bk, OS_ct, SM_some, SM_if, SM_map, SM_bind, BR_bl, Cn.d, List.getElem?_cons_zero, List.getElem?_cons_succ, sl_z, sl_s, hoi, hos, hob, hon, hod, fzi, fzs, fzb, p_add, p_adds, p_sub, p_mul, p_fdiv, p_mod, p_pow, p_neg, p_lt, p_le, p_gt, p_ge, p_eqi, p_eqs, p_nei, p_nes, p_idx, p_lenS, p_lenL, p_lenT, p_lenC, p_abs, p_intb, idxL, idxC, idxT, idxS, Bool.not_false, Bool.not_true, true_and, and_true, decide_eq_true_eq, List.set_cons_zero, List.set_cons_succ, ok_fin, ok_finx, rf_nil, rf_rf, pb_nil, pb_rf, rf_c, pb_c, rf_g, pb_g, rf_pr, pb_pr, rf_mv, pb_mv, rf_and, pb_and, rf_or, pb_or, rf_not, pb_not, rf_fz, pb_fz, rf_chn, pb_chn, rf_slc, pb_slc, rf_ite, pb_ite, rf_call, pb_call, rf_mut, pb_mut, rf_lst, pb_lst, rf_tup, pb_tup, rf_comp, pb_comp, rf_v, pb_v, frz_nd, frz_i, frz_s, frz_b, frz_n, frzs_n, frzs_c, frzs_int, frzs_str]
        refine ⟨sm, fun j hj => by simp [itm, hj], by simp [itm], fun j hj => ?_⟩
        rw [sb_one]
        refine ⟨rfl, rfl, by simp [kills], ?_⟩
        simp only [ok_c, ok_g, ok_v, ok_mv, ok_pr, ok_fz, ok_and, ok_or, ok_not, NB_bl, ok_ite, ok_chn, ok_lst, ok_tup, ok_call, ok_mut, ok_slcv, oa_nil, oa_v, oa_c, oa_g, oa_pr, oa_mv, oa_and, oa_or, oa_not, oa_fz, oa_chn, oa_slc, oa_ite, oa_call, oa_mut, oa_lst, oa_tup, oa_comp, or_nil, or_rf, or_v, or_c, or_g, or_pr, or_mv, or_and, or_or, or_not, or_fz, or_chn, or_slc, or_ite, or_call, or_mut, or_lst, or_tup, or_comp, reduceCtorEq, os_nil, os_cons, os_asg, os_unp, os_exs, os_aug, os_ife, os_ret, os_retN, os_rse, os_brk, os_cnt, os_pas, os_kil, os_asgP, os_fors, oi_rng1, oi_rng2, oi_v, IN_int, IN2_int, SL_int, OK_ok, OS_nx, OS_rt, OS_bk, OS_ct, SM_some, SM_if, SM_map, SM_bind, BR_bl, Cn.d, List.getElem?_cons_zero, List.getElem?_cons_succ, sl_z, sl_s, hoi, hos, hob, hon, hod, fzi, fzs, fzb, p_add, p_adds, p_sub, p_mul, p_fdiv, p_mod, p_pow, p_neg, p_lt, p_le, p_gt, p_ge, p_eqi, p_eqs, p_nei, p_nes, p_idx, p_lenS, p_lenL, p_lenT, p_lenC, p_abs, p_intb, idxL, idxC, idxT, idxS, Bool.not_false, Bool.not_true, true_and, and_true, decide_eq_true_eq, List.set_cons_zero, List.set_cons_succ, ok_fin, ok_finx, rf_nil, rf_rf, pb_nil, pb_rf, rf_c, pb_c, rf_g, pb_g, rf_pr, pb_pr, rf_mv, pb_mv, rf_and, pb_and, rf_or, pb_or, rf_not, pb_not, rf_fz, pb_fz, rf_chn, pb_chn, rf_slc, pb_slc, rf_ite, pb_ite, rf_call, pb_call, rf_mut, pb_mut, rf_lst, pb_lst, rf_tup, pb_tup, rf_comp, pb_comp, rf_v, pb_v, frz_nd, frz_i, frz_s, frz_b, frz_n, frzs_n, frzs_c, frzs_int, frzs_str, itFx, kills, List.foldl_cons, List.foldl_nil]
        refine ⟨by decide, ?_⟩
        have hf := fmod_b (j : Int) (m := 2) (by decide)
        obtain ⟨d, h3, h4⟩ := atI_in [D.int (num.fmod (m + 1)), D.int ((num.fdiv 64).fmod (m + 1))] ((j : Int).fmod 2) hf.1 (by simpa using hf.2)
        have : ∃ z : Int, d = .int z := by simp at h4; rcases h4 with rfl | rfl <;> exact ⟨_, rfl⟩
        obtain ⟨z, rfl⟩ := this
        obtain ⟨c, hc, ec⟩ := ny01 ((j : Int) < z)
        simp only [ok_c, ok_g, ok_v, ok_mv, ok_pr, ok_fz, ok_and, ok_or, ok_not, NB_bl, ok_ite, ok_chn, ok_lst, ok_tup, ok_call, ok_mut, ok_slcv, oa_nil, oa_v, oa_c, oa_g, oa_pr, oa_mv, oa_and, oa_or, oa_not, oa_fz, oa_chn, oa_slc, oa_ite, oa_call, oa_mut, oa_lst, oa_tup, oa_comp, or_nil, or_rf, or_v, or_c, or_g, or_pr, or_mv, or_and, or_or, or_not, or_fz, or_chn, or_slc, or_ite, or_call, or_mut, or_lst, or_tup, or_comp, reduceCtorEq, os_nil, os_cons, os_asg, os_unp, os_exs, os_aug, os_ife, os_ret, os_retN, os_rse, os_brk, os_cnt, os_pas, os_kil, os_asgP, os_fors, oi_rng1, oi_rng2, oi_v, IN_int, IN2_int, SL_int, OK_ok, OS_nx, OS_rt, OS_bk, OS_ct, SM_some, SM_if, SM_map, SM_bind, BR_bl, Cn.d, List.getElem?_cons_zero, List.getElem?_cons_succ, sl_z, sl_s, hoi, hos, hob, hon, hod, fzi, fzs, fzb, p_add, p_adds, p_sub, p_mul, p_fdiv, p_mod, p_pow, p_neg, p_lt, p_le, p_gt, p_ge, p_eqi, p_eqs, p_nei, p_nes, p_idx, p_lenS, p_lenL, p_lenT, p_lenC, p_abs, p_intb, idxL, idxC, idxT, idxS, Bool.not_false, Bool.not_true, true_and, and_true, decide_eq_true_eq, List.set_cons_zero, List.set_cons_succ, ok_fin, ok_finx, rf_nil, rf_rf, pb_nil, pb_rf, rf_c, pb_c, rf_g, pb_g, rf_pr, pb_pr, rf_mv, pb_mv, rf_and, pb_and, rf_or, pb_or, rf_not, pb_not, rf_fz, pb_fz, rf_chn, pb_chn, rf_slc, pb_slc, rf_ite, pb_ite, rf_call, pb_call, rf_mut, pb_mut, rf_lst, pb_lst, rf_tup, pb_tup, rf_comp, pb_comp, rf_v, pb_v, frz_nd, frz_i, frz_s, frz_b, frz_n, frzs_n, frzs_c, frzs_int, frzs_str, h3, ec]
        exact ⟨by decide, [c], hc, rfl⟩
      · obtain ⟨l, rfl, hl2, hs⟩ := strs_of hl hy fun _ _ h => h
        exact ⟨rfl, (out _ _ _).1, l, rfl, (out _ _ _).2, hl2, hs⟩
    · rw [if_neg c2]
      by_cases c3 : p0 = 3
      · rw [if_pos c3]
        refine ok_compR (n := m) (fun j => .int j) (fun _ y => ∃ s, Y1 s ∧ y = .str s) (by unfold lim; omega) (by simp [tgIn, isHole]) ?_ fun ys hl hy => ?_
        · simp only [ok_c, ok_g, ok_v, ok_mv, ok_pr, ok_fz, ok_and, ok_or, ok_not, NB_bl, ok_ite, ok_chn, ok_lst, ok_tup, ok_call, ok_mut, ok_slcv, oa_nil, oa_v, oa_c, oa_g, oa_pr, oa_mv, oa_and, oa_or, oa_not, oa_fz, oa_chn, oa_slc, oa_ite, oa_call, oa_mut, oa_lst, oa_tup, oa_comp, or_nil, or_rf, or_v, or_c, or_g, or_pr, or_mv, or_and, or_or, or_not, or_fz, or_chn, or_slc, or_ite, or_call, or_mut, or_lst, or_tup, or_comp, reduceCtorEq, os_nil, os_cons, os_asg, os_unp, os_exs, os_aug, os_ife, os_ret, os_retN, os_rse, os_brk, os_cnt, os_pas, os_kil, os_asgP, os_fors, oi_rng1, oi_rng2, oi_v, IN_int, IN2_int, SL_int, OK_ok, OS_nx, OS_rt, OS_bk, OS_ct, SM_some, SM_if, SM_map, SM_bind, BR_bl, Cn.d, List.getElem?_cons_zero, List.getElem?_cons_succ, sl_z, sl_s, hoi, hos, hob, hon, hod, fzi, fzs, fzb, p_add, p_adds, p_sub, p_mul, p_fdiv, p_mod, p_pow, p_neg, p_lt, p_le, p_gt, p_ge, p_eqi, p_eqs, p_nei, p_nes, p_idx, p_lenS, p_lenL, p_lenT, p_lenC, p_abs, p_intb, idxL, idxC, idxT, idxS, Bool.not_false, Bool.not_true, true_and, and_true, decide_eq_true_eq, List.set_cons_zero, List.set_cons_succ, ok_fin, ok_finx, rf_nil, rf_rf, pb_nil, pb_rf, rf_c, pb_c, rf_g, pb_g, rf_pr, pb_pr, rf_mv, pb_mv, rf_and, pb_and, rf_or, pb_or, rf_not, pb_not, rf_fz, pb_fz, rf_chn, pb_chn, rf_slc, pb_slc, rf_ite, pb_ite, rf_call, pb_call, rf_mut, pb_mut, rf_lst, pb_lst, rf_tup, pb_tup, rf_comp, pb_comp, rf_v, pb_v, frz_nd, frz_i, frz_s, frz_b, frz_n, frzs_n, frzs_c, frzs_int, frzs_str]
          refine ⟨sm, fun j hj => by simp [itm, hj], by simp [itm], fun j hj => ?_⟩
          rw [sb_one]
          refine ⟨rfl, rfl, by simp [kills], ?_⟩
          simp only [ok_c, ok_g, ok_v, ok_mv, ok_pr, ok_fz, ok_and, ok_or, ok_not, NB_bl, ok_ite, ok_chn, ok_lst, ok_tup, ok_call, ok_mut, ok_slcv, oa_nil, oa_v, oa_c, oa_g, oa_pr, oa_mv, oa_and, oa_or, oa_not, oa_fz, oa_chn, oa_slc, oa_ite, oa_call, oa_mut, oa_lst, oa_tup, oa_comp, or_nil, or_rf, or_v, or_c, or_g, or_pr, or_mv, or_and, or_or, or_not, or_fz, or_chn, or_slc, or_ite, or_call, or_mut, or_lst, or_tup, or_comp, reduceCtorEq, os_nil, os_cons, os_asg, os_unp, os_exs, os_aug, os_ife, os_ret, os_retN, os_rse, os_brk, os_cnt, os_pas, os_kil, os_asgP, os_fors, oi_rng1, oi_rng2, oi_v, IN_int, IN2_int, SL_int, OK_ok, OS_nx, OS_rt, OS_bk, OS_ct, SM_some, SM_if, SM_map, SM_bind, BR_bl, Cn.d, List.getElem?_cons_zero, List.getElem?_cons_succ, sl_z, sl_s, hoi, hos, hob, hon, hod, fzi, fzs, fzb, p_add, p_adds, p_sub, p_mul, p_fdiv, p_mod, p_pow, p_neg, p_lt, p_le, p_gt, p_ge, p_eqi, p_eqs, p_nei, p_nes, p_idx, p_lenS, p_lenL, p_lenT, p_lenC, p_abs, p_intb, idxL, idxC, idxT, idxS, Bool.not_false, Bool.not_true, true_and, and_true, decide_eq_true_eq, List.set_cons_zero, List.set_cons_succ, ok_fin, ok_finx, rf_nil, rf_rf, pb_nil, pb_rf, rf_c, pb_c, rf_g, pb_g, rf_pr, pb_pr, rf_mv, pb_mv, rf_and, pb_and, rf_or, pb_or, rf_not, pb_not, rf_fz, pb_fz, rf_chn, pb_chn, rf_slc, pb_slc, rf_ite, pb_ite, rf_call, pb_call, rf_mut, pb_mut, rf_lst, pb_lst, rf_tup, pb_tup, rf_comp, pb_comp, rf_v, pb_v, frz_nd, frz_i, frz_s, frz_b, frz_n, frzs_n, frzs_c, frzs_int, frzs_str, itFx, kills, List.foldl_cons, List.foldl_nil]
          refine ⟨by omega, by decide, m1, by simp [isHole, lim], ?_⟩
          have key : ∀ c : Bool, SM (fun d => SM (fun d => SM (fun d => isHole d = false ∧ ∃ s, Y1 s ∧ d = D.str s) (prim Pr.idx [D.str [110, 121], d])) (prim Pr.int [d])) (some (.bl c)) := by
            intro c
            obtain ⟨ch, hc, ec⟩ := ny01 (c = true)
            simp only [ok_c, ok_g, ok_v, ok_mv, ok_pr, ok_fz, ok_and, ok_or, ok_not, NB_bl, ok_ite, ok_chn, ok_lst, ok_tup, ok_call, ok_mut, ok_slcv, oa_nil, oa_v, oa_c, oa_g, oa_pr, oa_mv, oa_and, oa_or, oa_not, oa_fz, oa_chn, oa_slc, oa_ite, oa_call, oa_mut, oa_lst, oa_tup, oa_comp, or_nil, or_rf, or_v, or_c, or_g, or_pr, or_mv, or_and, or_or, or_not, or_fz, or_chn, or_slc, or_ite, or_call, or_mut, or_lst, or_tup, or_comp, reduceCtorEq, os_nil, os_cons, os_asg, os_unp, os_exs, os_aug, os_ife, os_ret, os_retN, os_rse, os_brk, os_cnt, os_pas, os_kil, os_asgP, os_fors, oi_rng1, oi_rng2, oi_v, IN_int, IN2_int, SL_int, OK_ok, OS_nx, OS_rt, OS_bk, OS_ct, SM_some, SM_if, SM_map, SM_bind, BR_bl, Cn.d, List.getElem?_cons_zero, List.getElem?_cons_succ, sl_z, sl_s, hoi, hos, hob, hon, hod, fzi, fzs, fzb, p_add, p_adds, p_sub, p_mul, p_fdiv, p_mod, p_pow, p_neg, p_lt, p_le, p_gt, p_ge, p_eqi, p_eqs, p_nei, p_nes, p_idx, p_lenS, p_lenL, p_lenT, p_lenC, p_abs, p_intb, idxL, idxC, idxT, idxS, Bool.not_false, Bool.not_true, true_and, and_true, decide_eq_true_eq, List.set_cons_zero, List.set_cons_succ, ok_fin, ok_finx, rf_nil, rf_rf, pb_nil, pb_rf, rf_c, pb_c, rf_g, pb_g, rf_pr, pb_pr, rf_mv, pb_mv, rf_and, pb_and, rf_or, pb_or, rf_not, pb_not, rf_fz, pb_fz, rf_chn, pb_chn, rf_slc, pb_slc, rf_ite, pb_ite, rf_call, pb_call, rf_mut, pb_mut, rf_lst, pb_lst, rf_tup, pb_tup, rf_comp, pb_comp, rf_v, pb_v, frz_nd, frz_i, frz_s, frz_b, frz_n, frzs_n, frzs_c, frzs_int, frzs_str, ec]
            exact ⟨by decide, [ch], hc, rfl⟩
          exact key _
        · obtain ⟨l, rfl, hl2, hs⟩ := strs_of hl hy fun _ _ h => h
          exact ⟨rfl, (out _ _ _).1, l, rfl, (out _ _ _).2, hl2, hs⟩
      · rw [if_neg c3]
        have hf := fmod_b (num.fdiv 3) (m := 2) (by decide)
        obtain ⟨c, hc, ec⟩ := ny2 _ hf
        rw [ec]
        refine ⟨by decide, by decide, by decide, ?_⟩
        show _ ∧ _
        refine ⟨by simp [isHole, lim], rfl, by simp, by rw [sm]; simp [small], ?_⟩
        have e1 : ((m : Int) - 1).toNat = m - 1 := by omega
        rw [e1]
        refine loop_rule (n := m - 1) (x := fun j => .int (1 + j)) (fun j e => ∃ (l : List (List Nat)) (x5 : D), l.length = j + 1 ∧ (∀ s ∈ l, Y1 s) ∧ e = [D.nd .lst false (.int p0 :: ps), .int (m : Int), .int num, .hole, .nd .lst true (l.map .str), x5]) (by unfold fuel; omega) ⟨[[c]], _, rfl, by simpa using hc, rfl⟩ (fun j e hj he => ?_) (fun e he => ?_) (fun j e hj he => ?_) (fun e he => ?_)
        · simp [itm, hj]
        · simp [itm]
        · obtain ⟨l, x5, hl, hy, rfl⟩ := he
          rw [os_turn, sb_one]
          refine ⟨rfl, rfl, by simp, ?_⟩
          have hidx : ∃ d, atI (l.map D.str) (((1 : Int) + j - 1).fdiv 2) = some d ∧ d ∈ l.map D.str := by
            refine atI_in _ _ (Int.fdiv_nonneg (by omega) (by omega)) ?_
            rw [Int.fdiv_eq_ediv_of_nonneg _ (by omega)]
            simp only [List.length_map]
            omega
          obtain ⟨d, h3, h4⟩ := hidx
          obtain ⟨s, hs, rfl⟩ := List.mem_map.mp h4
          have hlen : (l.map D.str).length < lim := by rw [List.length_map]; unfold lim; omega
          simp only [ok_c, ok_g, ok_v, ok_mv, ok_pr, ok_fz, ok_and, ok_or, ok_not, NB_bl, ok_ite, ok_chn, ok_lst, ok_tup, ok_call, ok_mut, ok_slcv, oa_nil, oa_v, oa_c, oa_g, oa_pr, oa_mv, oa_and, oa_or, oa_not, oa_fz, oa_chn, oa_slc, oa_ite, oa_call, oa_mut, oa_lst, oa_tup, oa_comp, or_nil, or_rf, or_v, or_c, or_g, or_pr, or_mv, or_and, or_or, or_not, or_fz, or_chn, or_slc, or_ite, or_call, or_mut, or_lst, or_tup, or_comp, reduceCtorEq, os_nil, os_cons, os_asg, os_unp, os_exs, os_aug, os_ife, os_ret, os_retN, os_rse, os_brk, os_cnt, os_pas, os_kil, os_asgP, os_fors, oi_rng1, oi_rng2, oi_v, IN_int, IN2_int, SL_int, OK_ok, OS_nx, OS_rt, OS_bk, OS_ct, SM_some, SM_if, SM_map, SM_bind, BR_bl, Cn.d, List.getElem?_cons_zero, List.getElem?_cons_succ, sl_z, sl_s, hoi, hos, hob, hon, hod, fzi, fzs, fzb, p_add, p_adds, p_sub, p_mul, p_fdiv, p_mod, p_pow, p_neg, p_lt, p_le, p_gt, p_ge, p_eqi, p_eqs, p_nei, p_nes, p_idx, p_lenS, p_lenL, p_lenT, p_lenC, p_abs, p_intb, idxL, idxC, idxT, idxS, Bool.not_false, Bool.not_true, true_and, and_true, decide_eq_true_eq, List.set_cons_zero, List.set_cons_succ, ok_fin, ok_finx, rf_nil, rf_rf, pb_nil, pb_rf, rf_c, pb_c, rf_g, pb_g, rf_pr, pb_pr, rf_mv, pb_mv, rf_and, pb_and, rf_or, pb_or, rf_not, pb_not, rf_fz, pb_fz, rf_chn, pb_chn, rf_slc, pb_slc, rf_ite, pb_ite, rf_call, pb_call, rf_mut, pb_mut, rf_lst, pb_lst, rf_tup, pb_tup, rf_comp, pb_comp, rf_v, pb_v, frz_nd, frz_i, frz_s, frz_b, frz_n, frzs_n, frzs_c, frzs_int, frzs_str, itFx, h3, mu_app hlen, if_true]
          have ap : ∀ s', Y1 s' → ∃ (l' : List (List Nat)) (x5' : D), l'.length = j + 1 + 1 ∧ (∀ s ∈ l', Y1 s) ∧ [D.nd .lst false (.int p0 :: ps), .int (m : Int), .int num, .hole, .nd .lst true (l.map .str ++ [.str s']), .int (1 + (j : Int))] = [D.nd .lst false (.int p0 :: ps), .int (m : Int), .int num, .hole, .nd .lst true (l'.map .str), x5'] :=
            fun s' h' => ⟨l ++ [s'], .int (1 + (j : Int)), by simp [hl], fun t ht => (List.mem_append.mp ht).elim (hy t) (fun z => by simp at z; subst z; exact h'), by simp⟩
          refine ⟨rfl, by decide, ?_⟩
          split
          · exact ap _ (.inl rfl)
          · refine ⟨⟨by omega, by omega⟩, by decide, ?_⟩
            split
            · exact ap _ (.inl rfl)
            · exact ap _ (.inr rfl)
        · obtain ⟨l, x5, hl, hy, rfl⟩ := he
          simp only [ok_c, ok_g, ok_v, ok_mv, ok_pr, ok_fz, ok_and, ok_or, ok_not, NB_bl, ok_ite, ok_chn, ok_lst, ok_tup, ok_call, ok_mut, ok_slcv, oa_nil, oa_v, oa_c, oa_g, oa_pr, oa_mv, oa_and, oa_or, oa_not, oa_fz, oa_chn, oa_slc, oa_ite, oa_call, oa_mut, oa_lst, oa_tup, oa_comp, or_nil, or_rf, or_v, or_c, or_g, or_pr, or_mv, or_and, or_or, or_not, or_fz, or_chn, or_slc, or_ite, or_call, or_mut, or_lst, or_tup, or_comp, reduceCtorEq, os_nil, os_cons, os_asg, os_unp, os_exs, os_aug, os_ife, os_ret, os_retN, os_rse, os_brk, os_cnt, os_pas, os_kil, os_asgP, os_fors, oi_rng1, oi_rng2, oi_v, IN_int, IN2_int, SL_int, OK_ok, OS_nx, OS_rt, OS_bk, OS_ct, SM_some, SM_if, SM_map, SM_bind, BR_bl, Cn.d, List.getElem?_cons_zero, List.getElem?_cons_succ, sl_z, sl_s, hoi, hos, hob, hon, hod, fzi, fzs, fzb, p_add, p_adds, p_sub, p_mul, p_fdiv, p_mod, p_pow, p_neg, p_lt, p_le, p_gt, p_ge, p_eqi, p_eqs, p_nei, p_nes, p_idx, p_lenS, p_lenL, p_lenT, p_lenC, p_abs, p_intb, idxL, idxC, idxT, idxS, Bool.not_false, Bool.not_true, true_and, and_true, decide_eq_true_eq, List.set_cons_zero, List.set_cons_succ, ok_fin, ok_finx, rf_nil, rf_rf, pb_nil, pb_rf, rf_c, pb_c, rf_g, pb_g, rf_pr, pb_pr, rf_mv, pb_mv, rf_and, pb_and, rf_or, pb_or, rf_not, pb_not, rf_fz, pb_fz, rf_chn, pb_chn, rf_slc, pb_slc, rf_ite, pb_ite, rf_call, pb_call, rf_mut, pb_mut, rf_lst, pb_lst, rf_tup, pb_tup, rf_comp, pb_comp, rf_v, pb_v, frz_nd, frz_i, frz_s, frz_b, frz_n, frzs_n, frzs_c, frzs_int, frzs_str]
          exact ⟨(out _ _ _).1, l, rfl, (out _ _ _).2, by omega, hy⟩
end
end Wap
set_option Elab.async false
set_option linter.all false
set_option maxRecDepth 100000
set_option maxHeartbeats 400000
/-! S6: rows by number. -/
namespace Wap
open PySem L2
section
variable {P : Nat → Option Dfn} {k : Nat}
theorem at0 {α : Type} {a : α} {l : List α} : atI (a :: l) 0 = some a := atI_nat (a :: l) 0
theorem at1 {α : Type} {a b : α} {l : List α} : atI (a :: b :: l) 1 = some b := atI_nat (a :: b :: l) 1
theorem at2 {α : Type} {a b c : α} {l : List α} : atI (a :: b :: c :: l) 2 = some c := atI_nat (a :: b :: c :: l) 2
theorem at3 {α : Type} {a b c d : α} {l : List α} : atI (a :: b :: c :: d :: l) 3 = some d := atI_nat (a :: b :: c :: d :: l) 3
theorem row_by_ok (h5 : P 5 = some d5) (h6 : P 6 = some d6) (h7 : P 7 = some d7) (h8 : P 8 = some d8) (num p0 p1 p2 p3 p4 : Int) (n : Nat) (h1 : 1 ≤ n) (hn : n ≤ 100) :
    ∃ row, (gam P (k + 2)).run 8 [.int num, .int n, .nd .lst false [.int p0, .int p1, .int p2, .int p3, .int p4]] = .ok (.str row) [.int num, .int n, .nd .lst false [.int p0, .int p1, .int p2, .int p3, .int p4]] ∧ row.length = n ∧ YN row := by
  rw [run_eq h8 rfl (by decide) (by decide)]
  suffices h : ∃ d outs, flOut d8.fx d8.np (execs (gam P (k + 1)) d8.body d8.fx (startE d8.ns [.int num, .int n, .nd .lst false [.int p0, .int p1, .int p2, .int p3, .int p4]])) = .ok d outs ∧ ∃ row, d = .str row ∧ outs = [.int num, .int n, .nd .lst false [.int p0, .int p1, .int p2, .int p3, .int p4]] ∧ row.length = n ∧ YN row by
    obtain ⟨d, outs, h1, row, rfl, rfl, h2, h3⟩ := h
    exact ⟨row, h1, h2, h3⟩
  refine fl_ex ?_
  show OS _ (execs (gam P (k + 1)) [_, _, _, _, _, _, _] [0, 1, 2] [_, _, _, .hole, .hole, .hole, .hole, .hole, .hole])
  obtain ⟨rb, eb, lb, yb⟩ := bits_ok (k := k) h7 num n (by omega)
  obtain ⟨rf, ef, lf, yf⟩ := bits_ok (k := k) h7 p2 n (by omega)
  have hm := fmod_b p1 (m := (n : Int)) (by omega)
  obtain ⟨m, em⟩ : ∃ m : Nat, (1 : Int) + p1.fmod n = m := ⟨(1 + p1.fmod n).toNat, by omega⟩
  obtain ⟨l, el, ll, yl⟩ := hidden_ok (k := k) h6 p0 num [.int p1, .int p2, .int p3, .int p4] m (by omega) (by omega)
  have out : ∀ x3 x4 x5 x6 x7 x8 : D, d8.np ≤ [D.int num, .int (n : Int), .nd .lst false [.int p0, .int p1, .int p2, .int p3, .int p4], x3, x4, x5, x6, x7, x8].length ∧ outE d8.fx 0 d8.np [D.int num, .int (n : Int), .nd .lst false [.int p0, .int p1, .int p2, .int p3, .int p4], x3, x4, x5, x6, x7, x8] = [.int num, .int n, .nd .lst false [.int p0, .int p1, .int p2, .int p3, .int p4]] := fun _ _ _ _ _ _ => ⟨by simp [d8], by simp [d8, outE]⟩
  have nz : (n : Int) ≠ 0 := by omega
  have sm : small (n : Int) = true := by simp [small]; omega
  refine os_seq (fun e => e = [D.int num, .int (n : Int), .nd .lst false [.int p0, .int p1, .int p2, .int p3, .int p4], .hole, .hole, .hole, .hole, .hole, .hole]) ?_ fun e he => ?_
  · simp only [ok_c, ok_g, ok_v, ok_mv, ok_pr, ok_fz, ok_and, ok_or, ok_not, NB_bl, ok_ite, ok_chn, ok_lst, ok_tup, ok_call, ok_mut, ok_slcv, oa_nil, oa_v, oa_c, oa_g, oa_pr, oa_mv, oa_and, oa_or, oa_not, oa_fz, oa_chn, oa_slc, oa_ite, oa_call, oa_mut, oa_lst, oa_tup, oa_comp, or_nil, or_rf, or_v, or_c, or_g, or_pr, or_mv, or_and, or_or, or_not, or_fz, or_chn, or_slc, or_ite, or_call, or_mut, or_lst, or_tup, or_comp, reduceCtorEq, os_nil, os_cons, os_asg, os_unp, os_exs, os_aug, os_ife, os_ret, os_retN, os_rse, os_brk, os_cnt, os_pas, os_kil, os_asgP, os_fors, oi_rng1, oi_rng2, oi_v, IN_int, IN2_int, SL_int, OK_ok, OS_nx, OS_rt, OS_bk, OS_ct, SM_some, SM_if, SM_map, SM_bind, BR_bl, Cn.d, List.getElem?_cons_zero, List.getElem?_cons_succ, sl_z, sl_s, hoi, hos, hob, hon, hod, fzi, fzs, fzb, p_add, p_adds, p_sub, p_mul, p_fdiv, p_mod, p_pow, p_neg, p_lt, p_le, p_gt, p_ge, p_eqi, p_eqs, p_nei, p_nes, p_idx, p_lenS, p_lenL, p_lenT, p_lenC, p_abs, p_intb, idxL, idxC, idxT, idxS, Bool.not_false, Bool.not_true, true_and, and_true, decide_eq_true_eq, List.set_cons_zero, List.set_cons_succ, ok_fin, ok_finx, rf_nil, rf_rf, pb_nil, pb_rf, rf_c, pb_c, rf_g, pb_g, rf_pr, pb_pr, rf_mv, pb_mv, rf_and, pb_and, rf_or, pb_or, rf_not, pb_not, rf_fz, pb_fz, rf_chn, pb_chn, rf_slc, pb_slc, rf_ite, pb_ite, rf_call, pb_call, rf_mut, pb_mut, rf_lst, pb_lst, rf_tup, pb_tup, rf_comp, pb_comp, rf_v, pb_v, frz_nd, frz_i, frz_s, frz_b, frz_n, frzs_n, frzs_c, frzs_int, frzs_str, at0, eb, if_true]
    by_cases c1 : p0 = 0
    · rw [if_pos c1]
      exact ⟨(out _ _ _ _ _ _).1, rb, rfl, (out _ _ _ _ _ _).2, lb, yb⟩
    · rw [if_neg c1]
      refine ⟨by decide, ?_⟩
      split
      · exact ⟨(out _ _ _ _ _ _).1, rb, rfl, (out _ _ _ _ _ _).2, lb, yb⟩
      · trivial
  · subst he
    simp only [ok_c, ok_g, ok_v, ok_mv, ok_pr, ok_fz, ok_and, ok_or, ok_not, NB_bl, ok_ite, ok_chn, ok_lst, ok_tup, ok_call, ok_mut, ok_slcv, oa_nil, oa_v, oa_c, oa_g, oa_pr, oa_mv, oa_and, oa_or, oa_not, oa_fz, oa_chn, oa_slc, oa_ite, oa_call, oa_mut, oa_lst, oa_tup, oa_comp, or_nil, or_rf, or_v, or_c, or_g, or_pr, or_mv, or_and, or_or, or_not, or_fz, or_chn, or_slc, or_ite, or_call, or_mut, or_lst, or_tup, or_comp, reduceCtorEq, os_nil, os_cons, os_asg, os_unp, os_exs, os_aug, os_ife, os_ret, os_retN, os_rse, os_brk, os_cnt, os_pas, os_kil, os_asgP, os_fors, oi_rng1, oi_rng2, oi_v, IN_int, IN2_int, SL_int, OK_ok, OS_nx, OS_rt, OS_bk, OS_ct, SM_some, SM_if, SM_map, SM_bind, BR_bl, Cn.d, List.getElem?_cons_zero, List.getElem?_cons_succ, sl_z, sl_s, hoi, hos, hob, hon, hod, fzi, fzs, fzb, p_add, p_adds, p_sub, p_mul, p_fdiv, p_mod, p_pow, p_neg, p_lt, p_le, p_gt, p_ge, p_eqi, p_eqs, p_nei, p_nes, p_idx, p_lenS, p_lenL, p_lenT, p_lenC, p_abs, p_intb, idxL, idxC, idxT, idxS, Bool.not_false, Bool.not_true, true_and, and_true, decide_eq_true_eq, List.set_cons_zero, List.set_cons_succ, ok_fin, ok_finx, rf_nil, rf_rf, pb_nil, pb_rf, rf_c, pb_c, rf_g, pb_g, rf_pr, pb_pr, rf_mv, pb_mv, rf_and, pb_and, rf_or, pb_or, rf_not, pb_not, rf_fz, pb_fz, rf_chn, pb_chn, rf_slc, pb_slc, rf_ite, pb_ite, rf_call, pb_call, rf_mut, pb_mut, rf_lst, pb_lst, rf_tup, pb_tup, rf_comp, pb_comp, rf_v, pb_v, frz_nd, frz_i, frz_s, frz_b, frz_n, frzs_n, frzs_c, frzs_int, frzs_str, at1, at2, ef, el, em]
    refine ⟨nz, rfl, by simp, rfl, rfl, by simp, rfl, by simp, rfl, by simp, sm, ?_⟩
    refine loop_rule (n := n) (x := fun j => .int j) (fun j e => ∃ (row : List Nat) (x7 x8 : D), row.length = j ∧ YN row ∧ e = [D.int num, .int (n : Int), .nd .lst false [.int p0, .int p1, .int p2, .int p3, .int p4], .int m, .nd .lst false (l.map .str), .str rf, .str row, x7, x8]) (by unfold fuel; omega) ⟨[], _, _, rfl, by simp [YN], rfl⟩ (fun j e hj he => ?_) (fun e he => ?_) (fun j e hj he => ?_) (fun e he => ?_)
    · simp [itm, hj]
    · simp [itm]
    · obtain ⟨row, x7, x8, hl, hy, rfl⟩ := he
      rw [os_turn, sb_one]
      refine ⟨rfl, rfl, by simp, ?_⟩
      have hf := fmod_b ((j : Int) + (j : Int).fdiv 2 * p3) (m := (m : Int)) (by omega)
      obtain ⟨d, h3, h4⟩ := atI_in (l.map D.str) _ hf.1 (by rw [List.length_map, ll]; exact hf.2)
      obtain ⟨s, hs, rfl⟩ := List.mem_map.mp h4
      obtain ⟨t, ht, h9⟩ := atI_in rf (j : Int) (by omega) (by omega)
      have hno := not_ok (P := P) (k := k) h5 s
      have hsy := (yl s hs).yn
      simp only [ok_c, ok_g, ok_v, ok_mv, ok_pr, ok_fz, ok_and, ok_or, ok_not, NB_bl, ok_ite, ok_chn, ok_lst, ok_tup, ok_call, ok_mut, ok_slcv, oa_nil, oa_v, oa_c, oa_g, oa_pr, oa_mv, oa_and, oa_or, oa_not, oa_fz, oa_chn, oa_slc, oa_ite, oa_call, oa_mut, oa_lst, oa_tup, oa_comp, or_nil, or_rf, or_v, or_c, or_g, or_pr, or_mv, or_and, or_or, or_not, or_fz, or_chn, or_slc, or_ite, or_call, or_mut, or_lst, or_tup, or_comp, reduceCtorEq, os_nil, os_cons, os_asg, os_unp, os_exs, os_aug, os_ife, os_ret, os_retN, os_rse, os_brk, os_cnt, os_pas, os_kil, os_asgP, os_fors, oi_rng1, oi_rng2, oi_v, IN_int, IN2_int, SL_int, OK_ok, OS_nx, OS_rt, OS_bk, OS_ct, SM_some, SM_if, SM_map, SM_bind, BR_bl, Cn.d, List.getElem?_cons_zero, List.getElem?_cons_succ, sl_z, sl_s, hoi, hos, hob, hon, hod, fzi, fzs, fzb, p_add, p_adds, p_sub, p_mul, p_fdiv, p_mod, p_pow, p_neg, p_lt, p_le, p_gt, p_ge, p_eqi, p_eqs, p_nei, p_nes, p_idx, p_lenS, p_lenL, p_lenT, p_lenC, p_abs, p_intb, idxL, idxC, idxT, idxS, Bool.not_false, Bool.not_true, true_and, and_true, decide_eq_true_eq, List.set_cons_zero, List.set_cons_succ, ok_fin, ok_finx, rf_nil, rf_rf, pb_nil, pb_rf, rf_c, pb_c, rf_g, pb_g, rf_pr, pb_pr, rf_mv, pb_mv, rf_and, pb_and, rf_or, pb_or, rf_not, pb_not, rf_fz, pb_fz, rf_chn, pb_chn, rf_slc, pb_slc, rf_ite, pb_ite, rf_call, pb_call, rf_mut, pb_mut, rf_lst, pb_lst, rf_tup, pb_tup, rf_comp, pb_comp, rf_v, pb_v, frz_nd, frz_i, frz_s, frz_b, frz_n, frzs_n, frzs_c, frzs_int, frzs_str, itFx, at3, h3, ht, hno]
      have dv : (j : Int).fdiv 2 = (j : Int) / 2 := Int.fdiv_eq_ediv_of_nonneg _ (by omega)
      refine ⟨by decide, .inl (by rw [dv]; omega), by omega, rfl, by simp, by rw [lf]; unfold lim; omega, ?_⟩
      have fin : ∀ s', Y1 s' → s'.length = 1 ∧ YN s' := fun s' h' => ⟨h'.yn.2, h'.yn.1⟩
      have y1 : ∀ q : Prop, [Decidable q] → Y1 (if q then [110] else [121]) := fun q _ => by by_cases hq : q <;> simp [hq, Y1]
      split
      · have hz := fin _ (y1 (s = [121]))
        refine ⟨by rw [hz.1]; unfold lim; omega, rfl, by simp, ?_⟩
        exact ⟨_, _, _, by rw [List.length_append, hl, hz.1], fun c hc => (List.mem_append.mp hc).elim (hy c) (hz.2 c), rfl⟩
      · refine ⟨by rw [hsy.2]; unfold lim; omega, rfl, by simp, ?_⟩
        exact ⟨_, _, _, by rw [List.length_append, hl, hsy.2], fun c hc => (List.mem_append.mp hc).elim (hy c) (hsy.1 c), rfl⟩
    · obtain ⟨row, x7, x8, hl, hy, rfl⟩ := he
      simp only [ok_c, ok_g, ok_v, ok_mv, ok_pr, ok_fz, ok_and, ok_or, ok_not, NB_bl, ok_ite, ok_chn, ok_lst, ok_tup, ok_call, ok_mut, ok_slcv, oa_nil, oa_v, oa_c, oa_g, oa_pr, oa_mv, oa_and, oa_or, oa_not, oa_fz, oa_chn, oa_slc, oa_ite, oa_call, oa_mut, oa_lst, oa_tup, oa_comp, or_nil, or_rf, or_v, or_c, or_g, or_pr, or_mv, or_and, or_or, or_not, or_fz, or_chn, or_slc, or_ite, or_call, or_mut, or_lst, or_tup, or_comp, reduceCtorEq, os_nil, os_cons, os_asg, os_unp, os_exs, os_aug, os_ife, os_ret, os_retN, os_rse, os_brk, os_cnt, os_pas, os_kil, os_asgP, os_fors, oi_rng1, oi_rng2, oi_v, IN_int, IN2_int, SL_int, OK_ok, OS_nx, OS_rt, OS_bk, OS_ct, SM_some, SM_if, SM_map, SM_bind, BR_bl, Cn.d, List.getElem?_cons_zero, List.getElem?_cons_succ, sl_z, sl_s, hoi, hos, hob, hon, hod, fzi, fzs, fzb, p_add, p_adds, p_sub, p_mul, p_fdiv, p_mod, p_pow, p_neg, p_lt, p_le, p_gt, p_ge, p_eqi, p_eqs, p_nei, p_nes, p_idx, p_lenS, p_lenL, p_lenT, p_lenC, p_abs, p_intb, idxL, idxC, idxT, idxS, Bool.not_false, Bool.not_true, true_and, and_true, decide_eq_true_eq, List.set_cons_zero, List.set_cons_succ, ok_fin, ok_finx, rf_nil, rf_rf, pb_nil, pb_rf, rf_c, pb_c, rf_g, pb_g, rf_pr, pb_pr, rf_mv, pb_mv, rf_and, pb_and, rf_or, pb_or, rf_not, pb_not, rf_fz, pb_fz, rf_chn, pb_chn, rf_slc, pb_slc, rf_ite, pb_ite, rf_call, pb_call, rf_mut, pb_mut, rf_lst, pb_lst, rf_tup, pb_tup, rf_comp, pb_comp, rf_v, pb_v, frz_nd, frz_i, frz_s, frz_b, frz_n, frzs_n, frzs_c, frzs_int, frzs_str]
      exact ⟨(out _ _ _ _ _ _).1, row, rfl, (out _ _ _ _ _ _).2, hl, hy⟩
end
end Wap
set_option Elab.async false
set_option linter.all false
set_option maxRecDepth 100000
set_option maxHeartbeats 400000
/-! S7: plans, rows. -/
namespace Wap
open PySem L2
theorem strs_by {R : List Nat → Prop} {T : Nat → D → Prop} {n : Nat} {ys : List D} (hl : ys.length = n) (h : ∀ j y, ys[j]? = some y → T j y) (hT : ∀ j y, T j y → ∃ s, R s ∧ y = .str s) : ∃ l : List (List Nat), ys = l.map .str ∧ l.length = n ∧ ∀ s ∈ l, R s := by
  have : ∀ ys : List D, (∀ y ∈ ys, ∃ s, R s ∧ y = .str s) → ∃ l : List (List Nat), ys = l.map .str ∧ ∀ s ∈ l, R s := by
    intro ys
    induction ys with
    | nil => exact fun _ => ⟨[], rfl, by simp⟩
    | cons y ys ih =>
      intro hy
      obtain ⟨s, h1, rfl⟩ := hy y (by simp)
      obtain ⟨l, rfl, h2⟩ := ih fun z hz => hy z (by simp [hz])
      exact ⟨s :: l, rfl, fun t ht => by rcases List.mem_cons.mp ht with rfl | ht; exact h1; exact h2 t ht⟩
  obtain ⟨l, rfl, h2⟩ := this ys fun y hy => by
    obtain ⟨j, hj⟩ := List.getElem?_of_mem hy
    exact hT j y (h j y hj)
  exact ⟨l, rfl, by simpa using hl, h2⟩
section
variable {P : Nat → Option Dfn} {k : Nat}
theorem plan_ok (h2 : P 2 = some d2) (h9 : P 9 = some d9) (c : Int) : ∃ p0 p1 p2 p3 p4 : Int, (gam P (k + 2)).run 9 [.int c] = .ok (.nd .lst true [.int p0, .int p1, .int p2, .int p3, .int p4]) [.int c] := by
  have hd := draws_ok (k := k) h2 false c [5, 12, 8192, 7, 8192] (by decide) (by decide)
  have e : (draws c [5, 12, 8192, 7, 8192]).map D.int = [.int _, .int _, .int _, .int _, .int _] := rfl
  rw [e] at hd
  refine ⟨(mix c).fmod 5, ((mix c).fdiv 5).fmod 12, (((mix c).fdiv 5).fdiv 12).fmod 8192, ((((mix c).fdiv 5).fdiv 12).fdiv 8192).fmod 7, (((((mix c).fdiv 5).fdiv 12).fdiv 8192).fdiv 7).fmod 8192, ?_⟩
  rw [run_eq h9 rfl (by decide) (by decide)]
  refine fl_of ?_
  show OS _ (execs (gam P (k + 1)) [_] [0] [_])
  simp only [ok_c, ok_g, ok_v, ok_mv, ok_pr, ok_fz, ok_and, ok_or, ok_not, NB_bl, ok_ite, ok_chn, ok_lst, ok_tup, ok_call, ok_mut, ok_slcv, oa_nil, oa_v, oa_c, oa_g, oa_pr, oa_mv, oa_and, oa_or, oa_not, oa_fz, oa_chn, oa_slc, oa_ite, oa_call, oa_mut, oa_lst, oa_tup, oa_comp, or_nil, or_rf, or_v, or_c, or_g, or_pr, or_mv, or_and, or_or, or_not, or_fz, or_chn, or_slc, or_ite, or_call, or_mut, or_lst, or_tup, or_comp, reduceCtorEq, os_nil, os_cons, os_asg, os_unp, os_exs, os_aug, os_ife, os_ret, os_retN, os_rse, os_brk, os_cnt, os_pas, os_kil, os_asgP, os_fors, oi_rng1, oi_rng2, oi_v, IN_int, IN2_int, SL_int, OK_ok, OS_nx, OS_rt, OS_bk, OS_ct, SM_some, SM_if, SM_map, SM_bind, BR_bl, Cn.d, List.getElem?_cons_zero, List.getElem?_cons_succ, sl_z, sl_s, hoi, hos, hob, hon, hod, fzi, fzs, fzb, p_add, p_adds, p_sub, p_mul, p_fdiv, p_mod, p_pow, p_neg, p_lt, p_le, p_gt, p_ge, p_eqi, p_eqs, p_nei, p_nes, p_idx, p_lenS, p_lenL, p_lenT, p_lenC, p_abs, p_intb, idxL, idxC, idxT, idxS, Bool.not_false, Bool.not_true, true_and, and_true, decide_eq_true_eq, List.set_cons_zero, List.set_cons_succ, ok_fin, ok_finx, rf_nil, rf_rf, pb_nil, pb_rf, rf_c, pb_c, rf_g, pb_g, rf_pr, pb_pr, rf_mv, pb_mv, rf_and, pb_and, rf_or, pb_or, rf_not, pb_not, rf_fz, pb_fz, rf_chn, pb_chn, rf_slc, pb_slc, rf_ite, pb_ite, rf_call, pb_call, rf_mut, pb_mut, rf_lst, pb_lst, rf_tup, pb_tup, rf_comp, pb_comp, rf_v, pb_v, frz_nd, frz_i, frz_s, frz_b, frz_n, frzs_n, frzs_c, frzs_int, frzs_str]
  refine ⟨by decide, ?_⟩
  rw [show [D.int 5, .int 12, .int 8192, .int 7, .int 8192] = List.map D.int [5, 12, 8192, 7, 8192] from rfl, hd]
  simp only [ok_c, ok_g, ok_v, ok_mv, ok_pr, ok_fz, ok_and, ok_or, ok_not, NB_bl, ok_ite, ok_chn, ok_lst, ok_tup, ok_call, ok_mut, ok_slcv, oa_nil, oa_v, oa_c, oa_g, oa_pr, oa_mv, oa_and, oa_or, oa_not, oa_fz, oa_chn, oa_slc, oa_ite, oa_call, oa_mut, oa_lst, oa_tup, oa_comp, or_nil, or_rf, or_v, or_c, or_g, or_pr, or_mv, or_and, or_or, or_not, or_fz, or_chn, or_slc, or_ite, or_call, or_mut, or_lst, or_tup, or_comp, reduceCtorEq, os_nil, os_cons, os_asg, os_unp, os_exs, os_aug, os_ife, os_ret, os_retN, os_rse, os_brk, os_cnt, os_pas, os_kil, os_asgP, os_fors, oi_rng1, oi_rng2, oi_v, IN_int, IN2_int, SL_int, OK_ok, OS_nx, OS_rt, OS_bk, OS_ct, SM_some, SM_if, SM_map, SM_bind, BR_bl, Cn.d, List.getElem?_cons_zero, List.getElem?_cons_succ, sl_z, sl_s, hoi, hos, hob, hon, hod, fzi, fzs, fzb, p_add, p_adds, p_sub, p_mul, p_fdiv, p_mod, p_pow, p_neg, p_lt, p_le, p_gt, p_ge, p_eqi, p_eqs, p_nei, p_nes, p_idx, p_lenS, p_lenL, p_lenT, p_lenC, p_abs, p_intb, idxL, idxC, idxT, idxS, Bool.not_false, Bool.not_true, true_and, and_true, decide_eq_true_eq, List.set_cons_zero, List.set_cons_succ, ok_fin, ok_finx, rf_nil, rf_rf, pb_nil, pb_rf, rf_c, pb_c, rf_g, pb_g, rf_pr, pb_pr, rf_mv, pb_mv, rf_and, pb_and, rf_or, pb_or, rf_not, pb_not, rf_fz, pb_fz, rf_chn, pb_chn, rf_slc, pb_slc, rf_ite, pb_ite, rf_call, pb_call, rf_mut, pb_mut, rf_lst, pb_lst, rf_tup, pb_tup, rf_comp, pb_comp, rf_v, pb_v, frz_nd, frz_i, frz_s, frz_b, frz_n, frzs_n, frzs_c, frzs_int, frzs_str]
  exact ⟨by simp [d9], by simp [d9, outE]⟩
theorem rows_ok (h2 : P 2 = some d2) (h5 : P 5 = some d5) (h6 : P 6 = some d6) (h7 : P 7 = some d7) (h8 : P 8 = some d8) (h9 : P 9 = some d9) (h10 : P 10 = some d10) (cells : List Int) (c : Int) (n : Nat) (h1 : 1 ≤ n) (hn : n ≤ 100) (hc : cells.length ≤ 1000) :
    ∃ rows : List (List Nat), (gam P (k + 3)).run 10 [.nd .lst false (cells.map .int), .int n, .int c] = .ok (.nd .lst true (rows.map .str)) [.nd .lst false (cells.map .int), .int n, .int c] ∧ rows.length = cells.length ∧ ∀ row ∈ rows, row.length = n ∧ YN row := by
  rw [run_eq h10 rfl (by decide) (by decide)]
  suffices h : ∃ d outs, flOut d10.fx d10.np (execs (gam P (k + 2)) d10.body d10.fx (startE d10.ns [.nd .lst false (cells.map .int), .int n, .int c])) = .ok d outs ∧ ∃ rows : List (List Nat), d = .nd .lst true (rows.map .str) ∧ outs = [.nd .lst false (cells.map .int), .int n, .int c] ∧ rows.length = cells.length ∧ ∀ row ∈ rows, row.length = n ∧ YN row by
    obtain ⟨d, outs, h1, row, rfl, rfl, h2, h3⟩ := h
    exact ⟨row, h1, h2, h3⟩
  refine fl_ex ?_
  show OS _ (execs (gam P (k + 2)) [_, _] [0, 1, 2] [_, _, _, .hole, .hole])
  obtain ⟨p0, p1, p2, p3, p4, ep⟩ := plan_ok (k := k) h2 h9 c
  simp only [ok_c, ok_g, ok_v, ok_mv, ok_pr, ok_fz, ok_and, ok_or, ok_not, NB_bl, ok_ite, ok_chn, ok_lst, ok_tup, ok_call, ok_mut, ok_slcv, oa_nil, oa_v, oa_c, oa_g, oa_pr, oa_mv, oa_and, oa_or, oa_not, oa_fz, oa_chn, oa_slc, oa_ite, oa_call, oa_mut, oa_lst, oa_tup, oa_comp, or_nil, or_rf, or_v, or_c, or_g, or_pr, or_mv, or_and, or_or, or_not, or_fz, or_chn, or_slc, or_ite, or_call, or_mut, or_lst, or_tup, or_comp, reduceCtorEq, os_nil, os_cons, os_asg, os_unp, os_exs, os_aug, os_ife, os_ret, os_retN, os_rse, os_brk, os_cnt, os_pas, os_kil, os_asgP, os_fors, oi_rng1, oi_rng2, oi_v, IN_int, IN2_int, SL_int, OK_ok, OS_nx, OS_rt, OS_bk, OS_ct, SM_some, SM_if, SM_map, SM_bind, BR_bl, Cn.d, List.getElem?_cons_zero, List.getElem?_cons_succ, sl_z, sl_s, hoi, hos, hob, hon, hod, fzi, fzs, fzb, p_add, p_adds, p_sub, p_mul, p_fdiv, p_mod, p_pow, p_neg, p_lt, p_le, p_gt, p_ge, p_eqi, p_eqs, p_nei, p_nes, p_idx, p_lenS, p_lenL, p_lenT, p_lenC, p_abs, p_intb, idxL, idxC, idxT, idxS, Bool.not_false, Bool.not_true, true_and, and_true, decide_eq_true_eq, List.set_cons_zero, List.set_cons_succ, ok_fin, ok_finx, rf_nil, rf_rf, pb_nil, pb_rf, rf_c, pb_c, rf_g, pb_g, rf_pr, pb_pr, rf_mv, pb_mv, rf_and, pb_and, rf_or, pb_or, rf_not, pb_not, rf_fz, pb_fz, rf_chn, pb_chn, rf_slc, pb_slc, rf_ite, pb_ite, rf_call, pb_call, rf_mut, pb_mut, rf_lst, pb_lst, rf_tup, pb_tup, rf_comp, pb_comp, rf_v, pb_v, frz_nd, frz_i, frz_s, frz_b, frz_n, frzs_n, frzs_c, frzs_int, frzs_str, ep]
  refine ⟨rfl, by simp, ?_⟩
  refine ok_compR (n := cells.length) (fun j => .int (cells.getD j 0)) (fun _ y => ∃ s : List Nat, (s.length = n ∧ YN s) ∧ y = .str s) (by unfold lim; omega) (by simp [tgIn, isHole]) ?_ fun ys hl hy => ?_
  · simp only [ok_c, ok_g, ok_v, ok_mv, ok_pr, ok_fz, ok_and, ok_or, ok_not, NB_bl, ok_ite, ok_chn, ok_lst, ok_tup, ok_call, ok_mut, ok_slcv, oa_nil, oa_v, oa_c, oa_g, oa_pr, oa_mv, oa_and, oa_or, oa_not, oa_fz, oa_chn, oa_slc, oa_ite, oa_call, oa_mut, oa_lst, oa_tup, oa_comp, or_nil, or_rf, or_v, or_c, or_g, or_pr, or_mv, or_and, or_or, or_not, or_fz, or_chn, or_slc, or_ite, or_call, or_mut, or_lst, or_tup, or_comp, reduceCtorEq, os_nil, os_cons, os_asg, os_unp, os_exs, os_aug, os_ife, os_ret, os_retN, os_rse, os_brk, os_cnt, os_pas, os_kil, os_asgP, os_fors, oi_rng1, oi_rng2, oi_v, IN_int, IN2_int, SL_int, OK_ok, OS_nx, OS_rt, OS_bk, OS_ct, SM_some, SM_if, SM_map, SM_bind, BR_bl, Cn.d, List.getElem?_cons_zero, List.getElem?_cons_succ, sl_z, sl_s, hoi, hos, hob, hon, hod, fzi, fzs, fzb, p_add, p_adds, p_sub, p_mul, p_fdiv, p_mod, p_pow, p_neg, p_lt, p_le, p_gt, p_ge, p_eqi, p_eqs, p_nei, p_nes, p_idx, p_lenS, p_lenL, p_lenT, p_lenC, p_abs, p_intb, idxL, idxC, idxT, idxS, Bool.not_false, Bool.not_true, true_and, and_true, decide_eq_true_eq, List.set_cons_zero, List.set_cons_succ, ok_fin, ok_finx, rf_nil, rf_rf, pb_nil, pb_rf, rf_c, pb_c, rf_g, pb_g, rf_pr, pb_pr, rf_mv, pb_mv, rf_and, pb_and, rf_or, pb_or, rf_not, pb_not, rf_fz, pb_fz, rf_chn, pb_chn, rf_slc, pb_slc, rf_ite, pb_ite, rf_call, pb_call, rf_mut, pb_mut, rf_lst, pb_lst, rf_tup, pb_tup, rf_comp, pb_comp, rf_v, pb_v, frz_nd, frz_i, frz_s, frz_b, frz_n, frzs_n, frzs_c, frzs_int, frzs_str, seqSlot]
    refine ⟨fun j hj => by simp [itm, hj, kills], by simp [itm, kills], fun j hj => ?_⟩
    rw [sb_one]
    refine ⟨rfl, rfl, by simp [kills], ?_⟩
    have hd := draws_ok (k := k + 1) h2 false (cells.getD j 0) [8192] (by decide) (by decide)
    have e : (draws (cells.getD j 0) [8192]).map D.int = [.int ((mix (cells.getD j 0)).fmod 8192)] := rfl
    rw [e] at hd
    obtain ⟨row, er, lr, yr⟩ := row_by_ok (k := k) h5 h6 h7 h8 ((mix (cells.getD j 0)).fmod 8192) p0 p1 p2 p3 p4 n h1 hn
    simp only [ok_c, ok_g, ok_v, ok_mv, ok_pr, ok_fz, ok_and, ok_or, ok_not, NB_bl, ok_ite, ok_chn, ok_lst, ok_tup, ok_call, ok_mut, ok_slcv, oa_nil, oa_v, oa_c, oa_g, oa_pr, oa_mv, oa_and, oa_or, oa_not, oa_fz, oa_chn, oa_slc, oa_ite, oa_call, oa_mut, oa_lst, oa_tup, oa_comp, or_nil, or_rf, or_v, or_c, or_g, or_pr, or_mv, or_and, or_or, or_not, or_fz, or_chn, or_slc, or_ite, or_call, or_mut, or_lst, or_tup, or_comp, reduceCtorEq, os_nil, os_cons, os_asg, os_unp, os_exs, os_aug, os_ife, os_ret, os_retN, os_rse, os_brk, os_cnt, os_pas, os_kil, os_asgP, os_fors, oi_rng1, oi_rng2, oi_v, IN_int, IN2_int, SL_int, OK_ok, OS_nx, OS_rt, OS_bk, OS_ct, SM_some, SM_if, SM_map, SM_bind, BR_bl, Cn.d, List.getElem?_cons_zero, List.getElem?_cons_succ, sl_z, sl_s, hoi, hos, hob, hon, hod, fzi, fzs, fzb, p_add, p_adds, p_sub, p_mul, p_fdiv, p_mod, p_pow, p_neg, p_lt, p_le, p_gt, p_ge, p_eqi, p_eqs, p_nei, p_nes, p_idx, p_lenS, p_lenL, p_lenT, p_lenC, p_abs, p_intb, idxL, idxC, idxT, idxS, Bool.not_false, Bool.not_true, true_and, and_true, decide_eq_true_eq, List.set_cons_zero, List.set_cons_succ, ok_fin, ok_finx, rf_nil, rf_rf, pb_nil, pb_rf, rf_c, pb_c, rf_g, pb_g, rf_pr, pb_pr, rf_mv, pb_mv, rf_and, pb_and, rf_or, pb_or, rf_not, pb_not, rf_fz, pb_fz, rf_chn, pb_chn, rf_slc, pb_slc, rf_ite, pb_ite, rf_call, pb_call, rf_mut, pb_mut, rf_lst, pb_lst, rf_tup, pb_tup, rf_comp, pb_comp, rf_v, pb_v, frz_nd, frz_i, frz_s, frz_b, frz_n, frzs_n, frzs_c, frzs_int, frzs_str, itFx, kills, List.foldl_cons, List.foldl_nil]
    refine ⟨by decide, ?_⟩
    rw [show [D.int 8192] = List.map D.int [8192] from rfl, hd]
    simp only [ok_c, ok_g, ok_v, ok_mv, ok_pr, ok_fz, ok_and, ok_or, ok_not, NB_bl, ok_ite, ok_chn, ok_lst, ok_tup, ok_call, ok_mut, ok_slcv, oa_nil, oa_v, oa_c, oa_g, oa_pr, oa_mv, oa_and, oa_or, oa_not, oa_fz, oa_chn, oa_slc, oa_ite, oa_call, oa_mut, oa_lst, oa_tup, oa_comp, or_nil, or_rf, or_v, or_c, or_g, or_pr, or_mv, or_and, or_or, or_not, or_fz, or_chn, or_slc, or_ite, or_call, or_mut, or_lst, or_tup, or_comp, reduceCtorEq, os_nil, os_cons, os_asg, os_unp, os_exs, os_aug, os_ife, os_ret, os_retN, os_rse, os_brk, os_cnt, os_pas, os_kil, os_asgP, os_fors, oi_rng1, oi_rng2, oi_v, IN_int, IN2_int, SL_int, OK_ok, OS_nx, OS_rt, OS_bk, OS_ct, SM_some, SM_if, SM_map, SM_bind, BR_bl, Cn.d, List.getElem?_cons_zero, List.getElem?_cons_succ, sl_z, sl_s, hoi, hos, hob, hon, hod, fzi, fzs, fzb, p_add, p_adds, p_sub, p_mul, p_fdiv, p_mod, p_pow, p_neg, p_lt, p_le, p_gt, p_ge, p_eqi, p_eqs, p_nei, p_nes, p_idx, p_lenS, p_lenL, p_lenT, p_lenC, p_abs, p_intb, idxL, idxC, idxT, idxS, Bool.not_false, Bool.not_true, true_and, and_true, decide_eq_true_eq, List.set_cons_zero, List.set_cons_succ, ok_fin, ok_finx, rf_nil, rf_rf, pb_nil, pb_rf, rf_c, pb_c, rf_g, pb_g, rf_pr, pb_pr, rf_mv, pb_mv, rf_and, pb_and, rf_or, pb_or, rf_not, pb_not, rf_fz, pb_fz, rf_chn, pb_chn, rf_slc, pb_slc, rf_ite, pb_ite, rf_call, pb_call, rf_mut, pb_mut, rf_lst, pb_lst, rf_tup, pb_tup, rf_comp, pb_comp, rf_v, pb_v, frz_nd, frz_i, frz_s, frz_b, frz_n, frzs_n, frzs_c, frzs_int, frzs_str, at0, er]
    exact ⟨rfl, row, ⟨lr, yr⟩, rfl⟩
  · obtain ⟨l, rfl, hl2, hs⟩ := strs_by hl hy fun _ _ h => h
    exact ⟨rfl, by simp [d10], l, rfl, by simp [d10, outE], hl2, hs⟩
end
end Wap
set_option Elab.async false
set_option linter.all false
set_option maxRecDepth 100000
set_option maxHeartbeats 400000
/-! S8: vows. -/
namespace Wap
open PySem L2
theorem os_unpL {q : Po} {fx js : List Nat} {o : Bool} {xs e : List D} : OS q (unpP fx js (.nd .lst o xs) e) = ((xs.length = js.length ∧ js.all (fun j => !fx.contains j && decide (j < e.length)) ∧ (o || xs.all fz) ∧ !xs.any isHole ∧ js.Nodup) ∧ q.nx ((js.zip xs).foldl (fun e p => e.set p.1 p.2) e)) := by
  show OS q (unpQ fx js o xs e) = _
  unfold unpQ
  rw [OS_if]
  rfl
abbrev Vow := Nat × List Nat × Nat × List Nat
def vD (v : Vow) : D := .nd .tup false [.int v.1, .str v.2.1, .int v.2.2.1, .str v.2.2.2]
def VOk (n : Nat) (v : Vow) : Prop := v.1 < n ∧ Y1 v.2.1 ∧ v.2.2.1 < n ∧ Y1 v.2.2.2
theorem yn2 (r : Int) (h : 0 ≤ r ∧ r < 2) : ∃ c, Y1 [c] ∧ atI [121, 110] r = some c := by
  obtain ⟨c, h1, h2⟩ := atI_in [121, 110] r h.1 (by simpa using h.2)
  exact ⟨c, by simp at h2; rcases h2 with rfl | rfl <;> simp [Y1], h1⟩
theorem rowc {row : List Nat} (hr : YN row) (r : Int) (h : 0 ≤ r ∧ r < row.length) : ∃ c, Y1 [c] ∧ atI row r = some c := by
  obtain ⟨c, h1, h2⟩ := atI_in row r h.1 h.2
  exact ⟨c, by rcases hr c h2 with rfl | rfl <;> simp [Y1], h1⟩
theorem p_in3 {a x y z : Int} {o : Bool} : prim .inn [.int a, .nd .tup o [.int x, .int y, .int z]] = some (.bl (eqF (.int x) (.int a) || (eqF (.int y) (.int a) || (eqF (.int z) (.int a) || false)))) := rfl
section
variable {P : Nat → Option Dfn} {k : Nat}
theorem vows_ok (h2 : P 2 = some d2) (h7 : P 7 = some d7) (h11 : P 11 = some d11) (cells : List Int) (c : Int) (n : Nat) (h1 : 1 ≤ n) (hn : n ≤ 100) (hc : cells.length ≤ 1000) :
    ∃ vows : List Vow, (gam P (k + 2)).run 11 [.nd .lst false (cells.map .int), .int n, .int c] = .ok (.nd .lst true (vows.map vD)) [.nd .lst false (cells.map .int), .int n, .int c] ∧ vows.length = cells.length ∧ ∀ v ∈ vows, VOk n v := by
  rw [run_eq h11 rfl (by decide) (by decide)]
  suffices h : ∃ d outs, flOut d11.fx d11.np (execs (gam P (k + 1)) d11.body d11.fx (startE d11.ns [.nd .lst false (cells.map .int), .int n, .int c])) = .ok d outs ∧ ∃ vows : List Vow, d = .nd .lst true (vows.map vD) ∧ outs = [.nd .lst false (cells.map .int), .int n, .int c] ∧ vows.length = cells.length ∧ ∀ v ∈ vows, VOk n v by
    obtain ⟨d, outs, h1, row, rfl, rfl, h2, h3⟩ := h
    exact ⟨row, h1, h2, h3⟩
  refine fl_ex ?_
  show OS _ (execs (gam P (k + 1)) [_, _, _, _, _] [0, 1, 2] [_, _, _, .hole, .hole, .hole, .hole, .hole, .hole, .hole, .hole, .hole, .hole])
  have hd := draws_ok (k := k) h2 false c [5, 8192, 4] (by decide) (by decide)
  obtain ⟨w0, w1, w2, ew⟩ : ∃ w0 w1 w2 : Int, (draws c [5, 8192, 4]).map D.int = [.int w0, .int w1, .int w2] := ⟨_, _, _, rfl⟩
  rw [ew] at hd
  obtain ⟨base, eb, lb, yb⟩ := bits_ok (k := k) h7 w1 n (by omega)
  simp only [ok_c, ok_g, ok_v, ok_mv, ok_pr, ok_fz, ok_and, ok_or, ok_not, NB_bl, ok_ite, ok_chn, ok_lst, ok_tup, ok_call, ok_mut, ok_slcv, oa_nil, oa_v, oa_c, oa_g, oa_pr, oa_mv, oa_and, oa_or, oa_not, oa_fz, oa_chn, oa_slc, oa_ite, oa_call, oa_mut, oa_lst, oa_tup, oa_comp, or_nil, or_rf, or_v, or_c, or_g, or_pr, or_mv, or_and, or_or, or_not, or_fz, or_chn, or_slc, or_ite, or_call, or_mut, or_lst, or_tup, or_comp, reduceCtorEq, os_nil, os_cons, os_asg, os_unp, os_exs, os_aug, os_ife, os_ret, os_retN, os_rse, os_brk, os_cnt, os_pas, os_kil, os_asgP, os_fors, oi_rng1, oi_rng2, oi_v, IN_int, IN2_int, SL_int, OK_ok, OS_nx, OS_rt, OS_bk, OS_ct, SM_some, SM_if, SM_map, SM_bind, BR_bl, Cn.d, List.getElem?_cons_zero, List.getElem?_cons_succ, sl_z, sl_s, hoi, hos, hob, hon, hod, fzi, fzs, fzb, p_add, p_adds, p_sub, p_mul, p_fdiv, p_mod, p_pow, p_neg, p_lt, p_le, p_gt, p_ge, p_eqi, p_eqs, p_nei, p_nes, p_idx, p_lenS, p_lenL, p_lenT, p_lenC, p_abs, p_intb, idxL, idxC, idxT, idxS, Bool.not_false, Bool.not_true, true_and, and_true, decide_eq_true_eq, List.set_cons_zero, List.set_cons_succ, ok_fin, ok_finx, rf_nil, rf_rf, pb_nil, pb_rf, rf_c, pb_c, rf_g, pb_g, rf_pr, pb_pr, rf_mv, pb_mv, rf_and, pb_and, rf_or, pb_or, rf_not, pb_not, rf_fz, pb_fz, rf_chn, pb_chn, rf_slc, pb_slc, rf_ite, pb_ite, rf_call, pb_call, rf_mut, pb_mut, rf_lst, pb_lst, rf_tup, pb_tup, rf_comp, pb_comp, rf_v, pb_v, frz_nd, frz_i, frz_s, frz_b, frz_n, frzs_n, frzs_c, frzs_int, frzs_str]
  refine ⟨by decide, ?_⟩
  rw [show [D.int 5, .int 8192, .int 4] = List.map D.int [5, 8192, 4] from rfl, hd]
  simp only [ok_c, ok_g, ok_v, ok_mv, ok_pr, ok_fz, ok_and, ok_or, ok_not, NB_bl, ok_ite, ok_chn, ok_lst, ok_tup, ok_call, ok_mut, ok_slcv, oa_nil, oa_v, oa_c, oa_g, oa_pr, oa_mv, oa_and, oa_or, oa_not, oa_fz, oa_chn, oa_slc, oa_ite, oa_call, oa_mut, oa_lst, oa_tup, oa_comp, or_nil, or_rf, or_v, or_c, or_g, or_pr, or_mv, or_and, or_or, or_not, or_fz, or_chn, or_slc, or_ite, or_call, or_mut, or_lst, or_tup, or_comp, reduceCtorEq, os_nil, os_cons, os_asg, os_unp, os_exs, os_aug, os_ife, os_ret, os_retN, os_rse, os_brk, os_cnt, os_pas, os_kil, os_asgP, os_fors, oi_rng1, oi_rng2, oi_v, IN_int, IN2_int, SL_int, OK_ok, OS_nx, OS_rt, OS_bk, OS_ct, SM_some, SM_if, SM_map, SM_bind, BR_bl, Cn.d, List.getElem?_cons_zero, List.getElem?_cons_succ, sl_z, sl_s, hoi, hos, hob, hon, hod, fzi, fzs, fzb, p_add, p_adds, p_sub, p_mul, p_fdiv, p_mod, p_pow, p_neg, p_lt, p_le, p_gt, p_ge, p_eqi, p_eqs, p_nei, p_nes, p_idx, p_lenS, p_lenL, p_lenT, p_lenC, p_abs, p_intb, idxL, idxC, idxT, idxS, Bool.not_false, Bool.not_true, true_and, and_true, decide_eq_true_eq, List.set_cons_zero, List.set_cons_succ, ok_fin, ok_finx, rf_nil, rf_rf, pb_nil, pb_rf, rf_c, pb_c, rf_g, pb_g, rf_pr, pb_pr, rf_mv, pb_mv, rf_and, pb_and, rf_or, pb_or, rf_not, pb_not, rf_fz, pb_fz, rf_chn, pb_chn, rf_slc, pb_slc, rf_ite, pb_ite, rf_call, pb_call, rf_mut, pb_mut, rf_lst, pb_lst, rf_tup, pb_tup, rf_comp, pb_comp, rf_v, pb_v, frz_nd, frz_i, frz_s, frz_b, frz_n, frzs_n, frzs_c, frzs_int, frzs_str, at1, eb]
  refine ⟨rfl, by simp, rfl, by simp, by decide, rfl, by simp, ?_⟩
  simp only [seqSlot, SM_some]
  refine loop_rule (n := cells.length) (x := fun j => .int (cells.getD j 0)) (fun j e => ∃ (l : List Vow) (x6 x7 x8 x9 x10 x11 x12 : D), l.length = j ∧ (∀ v ∈ l, VOk n v) ∧ e = [.nd .lst false (cells.map .int), .int (n : Int), .int c, .nd .lst false [.int w0, .int w1, .int w2], .str base, .nd .lst true (l.map vD), x6, x7, x8, x9, x10, x11, x12]) (by unfold fuel; omega) ⟨[], _, _, _, _, _, _, _, rfl, by simp, rfl⟩ (fun j e hj he => ?_) (fun e he => ?_) (fun j e hj he => ?_) (fun e he => ?_)
  · obtain ⟨l, x6, x7, x8, x9, x10, x11, x12, hl, hv, rfl⟩ := he
    simp [itm, hj]
  · obtain ⟨l, x6, x7, x8, x9, x10, x11, x12, hl, hv, rfl⟩ := he
    simp [itm]
  · obtain ⟨l, x6, x7, x8, x9, x10, x11, x12, hl, hv, rfl⟩ := he
    rw [os_turn, sb_one]
    refine ⟨rfl, rfl, by simp, ?_⟩
    have hd2 := draws_ok (k := k) h2 false (cells.getD j 0) [n, 2, n, 2, 17, 3] (by simp; omega) (by simp)
    obtain ⟨t0, t1, t2, t3, t4, t5, et, b0, b1, b2, b3⟩ : ∃ t0 t1 t2 t3 t4 t5 : Int, (draws (cells.getD j 0) [n, 2, n, 2, 17, 3]).map D.int = [.int t0, .int t1, .int t2, .int t3, .int t4, .int t5] ∧ (0 ≤ t0 ∧ t0 < n) ∧ (0 ≤ t1 ∧ t1 < 2) ∧ (0 ≤ t2 ∧ t2 < n) ∧ (0 ≤ t3 ∧ t3 < 2) :=
      ⟨_, _, _, _, _, _, rfl, fmod_b _ (by omega), fmod_b _ (by omega), fmod_b _ (by omega), fmod_b _ (by omega)⟩
    rw [et] at hd2
    obtain ⟨ca, ha, ea⟩ := yn2 t1 b1
    obtain ⟨cb, hb, ebb⟩ := yn2 t3 b3
    simp only [itFx]
    refine os_seq (fun e => e = [.nd .lst false (cells.map .int), .int (n : Int), .int c, .nd .lst false [.int w0, .int w1, .int w2], .str base, .nd .lst true (l.map vD), .int (cells.getD j 0), .int t0, .int t1, .int t2, .int t3, .int t4, .int t5]) ?_ fun e he => ?_
    · simp only [ok_c, ok_g, ok_v, ok_mv, ok_pr, ok_fz, ok_and, ok_or, ok_not, NB_bl, ok_ite, ok_chn, ok_lst, ok_tup, ok_call, ok_mut, ok_slcv, oa_nil, oa_v, oa_c, oa_g, oa_pr, oa_mv, oa_and, oa_or, oa_not, oa_fz, oa_chn, oa_slc, oa_ite, oa_call, oa_mut, oa_lst, oa_tup, oa_comp, or_nil, or_rf, or_v, or_c, or_g, or_pr, or_mv, or_and, or_or, or_not, or_fz, or_chn, or_slc, or_ite, or_call, or_mut, or_lst, or_tup, or_comp, reduceCtorEq, os_nil, os_cons, os_asg, os_unp, os_exs, os_aug, os_ife, os_ret, os_retN, os_rse, os_brk, os_cnt, os_pas, os_kil, os_asgP, os_fors, oi_rng1, oi_rng2, oi_v, IN_int, IN2_int, SL_int, OK_ok, OS_nx, OS_rt, OS_bk, OS_ct, SM_some, SM_if, SM_map, SM_bind, BR_bl, Cn.d, List.getElem?_cons_zero, List.getElem?_cons_succ, sl_z, sl_s, hoi, hos, hob, hon, hod, fzi, fzs, fzb, p_add, p_adds, p_sub, p_mul, p_fdiv, p_mod, p_pow, p_neg, p_lt, p_le, p_gt, p_ge, p_eqi, p_eqs, p_nei, p_nes, p_idx, p_lenS, p_lenL, p_lenT, p_lenC, p_abs, p_intb, idxL, idxC, idxT, idxS, Bool.not_false, Bool.not_true, true_and, and_true, decide_eq_true_eq, List.set_cons_zero, List.set_cons_succ, ok_fin, ok_finx, rf_nil, rf_rf, pb_nil, pb_rf, rf_c, pb_c, rf_g, pb_g, rf_pr, pb_pr, rf_mv, pb_mv, rf_and, pb_and, rf_or, pb_or, rf_not, pb_not, rf_fz, pb_fz, rf_chn, pb_chn, rf_slc, pb_slc, rf_ite, pb_ite, rf_call, pb_call, rf_mut, pb_mut, rf_lst, pb_lst, rf_tup, pb_tup, rf_comp, pb_comp, rf_v, pb_v, frz_nd, frz_i, frz_s, frz_b, frz_n, frzs_n, frzs_c, frzs_int, frzs_str]
      refine ⟨by simp [isHole, lim], ?_⟩
      rw [show [D.int n, .int 2, .int n, .int 2, .int 17, .int 3] = List.map D.int [(n : Int), 2, n, 2, 17, 3] from rfl, hd2]
      simp only [ok_c, ok_g, ok_v, ok_mv, ok_pr, ok_fz, ok_and, ok_or, ok_not, NB_bl, ok_ite, ok_chn, ok_lst, ok_tup, ok_call, ok_mut, ok_slcv, oa_nil, oa_v, oa_c, oa_g, oa_pr, oa_mv, oa_and, oa_or, oa_not, oa_fz, oa_chn, oa_slc, oa_ite, oa_call, oa_mut, oa_lst, oa_tup, oa_comp, or_nil, or_rf, or_v, or_c, or_g, or_pr, or_mv, or_and, or_or, or_not, or_fz, or_chn, or_slc, or_ite, or_call, or_mut, or_lst, or_tup, or_comp, reduceCtorEq, os_nil, os_cons, os_asg, os_unp, os_exs, os_aug, os_ife, os_ret, os_retN, os_rse, os_brk, os_cnt, os_pas, os_kil, os_asgP, os_fors, oi_rng1, oi_rng2, oi_v, IN_int, IN2_int, SL_int, OK_ok, OS_nx, OS_rt, OS_bk, OS_ct, SM_some, SM_if, SM_map, SM_bind, BR_bl, Cn.d, List.getElem?_cons_zero, List.getElem?_cons_succ, sl_z, sl_s, hoi, hos, hob, hon, hod, fzi, fzs, fzb, p_add, p_adds, p_sub, p_mul, p_fdiv, p_mod, p_pow, p_neg, p_lt, p_le, p_gt, p_ge, p_eqi, p_eqs, p_nei, p_nes, p_idx, p_lenS, p_lenL, p_lenT, p_lenC, p_abs, p_intb, idxL, idxC, idxT, idxS, Bool.not_false, Bool.not_true, true_and, and_true, decide_eq_true_eq, List.set_cons_zero, List.set_cons_succ, ok_fin, ok_finx, rf_nil, rf_rf, pb_nil, pb_rf, rf_c, pb_c, rf_g, pb_g, rf_pr, pb_pr, rf_mv, pb_mv, rf_and, pb_and, rf_or, pb_or, rf_not, pb_not, rf_fz, pb_fz, rf_chn, pb_chn, rf_slc, pb_slc, rf_ite, pb_ite, rf_call, pb_call, rf_mut, pb_mut, rf_lst, pb_lst, rf_tup, pb_tup, rf_comp, pb_comp, rf_v, pb_v, frz_nd, frz_i, frz_s, frz_b, frz_n, frzs_n, frzs_c, frzs_int, frzs_str, os_unpL, List.zip_cons_cons, List.zip_nil_right, List.foldl_cons, List.foldl_nil]
      exact ⟨rfl, by simp, by simp [fz], by simp [isHole], by decide⟩
    subst he
    refine os_seq (fun e => e = [.nd .lst false (cells.map .int), .int (n : Int), .int c, .nd .lst false [.int w0, .int w1, .int w2], .str base, .nd .lst true (l.map vD), .int (cells.getD j 0), .int t0, .str [ca], .int t2, .int t3, .int t4, .int t5]) ?_ fun e he => ?_
    · simp only [ok_c, ok_g, ok_v, ok_mv, ok_pr, ok_fz, ok_and, ok_or, ok_not, NB_bl, ok_ite, ok_chn, ok_lst, ok_tup, ok_call, ok_mut, ok_slcv, oa_nil, oa_v, oa_c, oa_g, oa_pr, oa_mv, oa_and, oa_or, oa_not, oa_fz, oa_chn, oa_slc, oa_ite, oa_call, oa_mut, oa_lst, oa_tup, oa_comp, or_nil, or_rf, or_v, or_c, or_g, or_pr, or_mv, or_and, or_or, or_not, or_fz, or_chn, or_slc, or_ite, or_call, or_mut, or_lst, or_tup, or_comp, reduceCtorEq, os_nil, os_cons, os_asg, os_unp, os_exs, os_aug, os_ife, os_ret, os_retN, os_rse, os_brk, os_cnt, os_pas, os_kil, os_asgP, os_fors, oi_rng1, oi_rng2, oi_v, IN_int, IN2_int, SL_int, OK_ok, OS_nx, OS_rt, OS_bk, OS_ct, SM_some, SM_if, SM_map, SM_bind, BR_bl, Cn.d, List.getElem?_cons_zero, List.getElem?_cons_succ, sl_z, sl_s, hoi, hos, hob, hon, hod, fzi, fzs, fzb, p_add, p_adds, p_sub, p_mul, p_fdiv, p_mod, p_pow, p_neg, p_lt, p_le, p_gt, p_ge, p_eqi, p_eqs, p_nei, p_nes, p_idx, p_lenS, p_lenL, p_lenT, p_lenC, p_abs, p_intb, idxL, idxC, idxT, idxS, Bool.not_false, Bool.not_true, true_and, and_true, decide_eq_true_eq, List.set_cons_zero, List.set_cons_succ, ok_fin, ok_finx, rf_nil, rf_rf, pb_nil, pb_rf, rf_c, pb_c, rf_g, pb_g, rf_pr, pb_pr, rf_mv, pb_mv, rf_and, pb_and, rf_or, pb_or, rf_not, pb_not, rf_fz, pb_fz, rf_chn, pb_chn, rf_slc, pb_slc, rf_ite, pb_ite, rf_call, pb_call, rf_mut, pb_mut, rf_lst, pb_lst, rf_tup, pb_tup, rf_comp, pb_comp, rf_v, pb_v, frz_nd, frz_i, frz_s, frz_b, frz_n, frzs_n, frzs_c, frzs_int, frzs_str, ea]
      exact ⟨by decide, rfl, by simp⟩
    subst he
    refine os_seq (fun e => e = [.nd .lst false (cells.map .int), .int (n : Int), .int c, .nd .lst false [.int w0, .int w1, .int w2], .str base, .nd .lst true (l.map vD), .int (cells.getD j 0), .int t0, .str [ca], .int t2, .str [cb], .int t4, .int t5]) ?_ fun e he => ?_
    · simp only [ok_c, ok_g, ok_v, ok_mv, ok_pr, ok_fz, ok_and, ok_or, ok_not, NB_bl, ok_ite, ok_chn, ok_lst, ok_tup, ok_call, ok_mut, ok_slcv, oa_nil, oa_v, oa_c, oa_g, oa_pr, oa_mv, oa_and, oa_or, oa_not, oa_fz, oa_chn, oa_slc, oa_ite, oa_call, oa_mut, oa_lst, oa_tup, oa_comp, or_nil, or_rf, or_v, or_c, or_g, or_pr, or_mv, or_and, or_or, or_not, or_fz, or_chn, or_slc, or_ite, or_call, or_mut, or_lst, or_tup, or_comp, reduceCtorEq, os_nil, os_cons, os_asg, os_unp, os_exs, os_aug, os_ife, os_ret, os_retN, os_rse, os_brk, os_cnt, os_pas, os_kil, os_asgP, os_fors, oi_rng1, oi_rng2, oi_v, IN_int, IN2_int, SL_int, OK_ok, OS_nx, OS_rt, OS_bk, OS_ct, SM_some, SM_if, SM_map, SM_bind, BR_bl, Cn.d, List.getElem?_cons_zero, List.getElem?_cons_succ, sl_z, sl_s, hoi, hos, hob, hon, hod, fzi, fzs, fzb, p_add, p_adds, p_sub, p_mul, p_fdiv, p_mod, p_pow, p_neg, p_lt, p_le, p_gt, p_ge, p_eqi, p_eqs, p_nei, p_nes, p_idx, p_lenS, p_lenL, p_lenT, p_lenC, p_abs, p_intb, idxL, idxC, idxT, idxS, Bool.not_false, Bool.not_true, true_and, and_true, decide_eq_true_eq, List.set_cons_zero, List.set_cons_succ, ok_fin, ok_finx, rf_nil, rf_rf, pb_nil, pb_rf, rf_c, pb_c, rf_g, pb_g, rf_pr, pb_pr, rf_mv, pb_mv, rf_and, pb_and, rf_or, pb_or, rf_not, pb_not, rf_fz, pb_fz, rf_chn, pb_chn, rf_slc, pb_slc, rf_ite, pb_ite, rf_call, pb_call, rf_mut, pb_mut, rf_lst, pb_lst, rf_tup, pb_tup, rf_comp, pb_comp, rf_v, pb_v, frz_nd, frz_i, frz_s, frz_b, frz_n, frzs_n, frzs_c, frzs_int, frzs_str, ebb]
      exact ⟨by decide, rfl, by simp⟩
    subst he
    refine os_seq (fun e => ∃ t2 : Int, (0 ≤ t2 ∧ t2 < n) ∧ e = [.nd .lst false (cells.map .int), .int (n : Int), .int c, .nd .lst false [.int w0, .int w1, .int w2], .str base, .nd .lst true (l.map vD), .int (cells.getD j 0), .int t0, .str [ca], .int t2, .str [cb], .int t4, .int t5]) ?_ fun e he => ?_
    · simp only [ok_c, ok_g, ok_v, ok_mv, ok_pr, ok_fz, ok_and, ok_or, ok_not, NB_bl, ok_ite, ok_chn, ok_lst, ok_tup, ok_call, ok_mut, ok_slcv, oa_nil, oa_v, oa_c, oa_g, oa_pr, oa_mv, oa_and, oa_or, oa_not, oa_fz, oa_chn, oa_slc, oa_ite, oa_call, oa_mut, oa_lst, oa_tup, oa_comp, or_nil, or_rf, or_v, or_c, or_g, or_pr, or_mv, or_and, or_or, or_not, or_fz, or_chn, or_slc, or_ite, or_call, or_mut, or_lst, or_tup, or_comp, reduceCtorEq, os_nil, os_cons, os_asg, os_unp, os_exs, os_aug, os_ife, os_ret, os_retN, os_rse, os_brk, os_cnt, os_pas, os_kil, os_asgP, os_fors, oi_rng1, oi_rng2, oi_v, IN_int, IN2_int, SL_int, OK_ok, OS_nx, OS_rt, OS_bk, OS_ct, SM_some, SM_if, SM_map, SM_bind, BR_bl, Cn.d, List.getElem?_cons_zero, List.getElem?_cons_succ, sl_z, sl_s, hoi, hos, hob, hon, hod, fzi, fzs, fzb, p_add, p_adds, p_sub, p_mul, p_fdiv, p_mod, p_pow, p_neg, p_lt, p_le, p_gt, p_ge, p_eqi, p_eqs, p_nei, p_nes, p_idx, p_lenS, p_lenL, p_lenT, p_lenC, p_abs, p_intb, idxL, idxC, idxT, idxS, Bool.not_false, Bool.not_true, true_and, and_true, decide_eq_true_eq, List.set_cons_zero, List.set_cons_succ, ok_fin, ok_finx, rf_nil, rf_rf, pb_nil, pb_rf, rf_c, pb_c, rf_g, pb_g, rf_pr, pb_pr, rf_mv, pb_mv, rf_and, pb_and, rf_or, pb_or, rf_not, pb_not, rf_fz, pb_fz, rf_chn, pb_chn, rf_slc, pb_slc, rf_ite, pb_ite, rf_call, pb_call, rf_mut, pb_mut, rf_lst, pb_lst, rf_tup, pb_tup, rf_comp, pb_comp, rf_v, pb_v, frz_nd, frz_i, frz_s, frz_b, frz_n, frzs_n, frzs_c, frzs_int, frzs_str, at0]
      split
      · split
        · exact ⟨by omega, rfl, by simp, _, fmod_b _ (by omega), rfl⟩
        · exact ⟨t2, b2, rfl⟩
      · exact ⟨t2, b2, rfl⟩
    obtain ⟨t2, b2, rfl⟩ := he
    refine os_seq (fun e => ∃ s : List Nat, Y1 s ∧ e = [.nd .lst false (cells.map .int), .int (n : Int), .int c, .nd .lst false [.int w0, .int w1, .int w2], .str base, .nd .lst true (l.map vD), .int (cells.getD j 0), .int t0, .str [ca], .int t2, .str s, .int t4, .int t5]) ?_ fun e he => ?_
    · obtain ⟨cq, hq, eq⟩ := rowc yb t0 (by omega)
      obtain ⟨cr, hr, er⟩ := rowc yb t2 (by omega)
      have hlim : base.length ≤ lim := by unfold lim; omega
      simp only [ok_c, ok_g, ok_v, ok_mv, ok_pr, ok_fz, ok_and, ok_or, ok_not, NB_bl, ok_ite, ok_chn, ok_lst, ok_tup, ok_call, ok_mut, ok_slcv, oa_nil, oa_v, oa_c, oa_g, oa_pr, oa_mv, oa_and, oa_or, oa_not, oa_fz, oa_chn, oa_slc, oa_ite, oa_call, oa_mut, oa_lst, oa_tup, oa_comp, or_nil, or_rf, or_v, or_c, or_g, or_pr, or_mv, or_and, or_or, or_not, or_fz, or_chn, or_slc, or_ite, or_call, or_mut, or_lst, or_tup, or_comp, reduceCtorEq, os_nil, os_cons, os_asg, os_unp, os_exs, os_aug, os_ife, os_ret, os_retN, os_rse, os_brk, os_cnt, os_pas, os_kil, os_asgP, os_fors, oi_rng1, oi_rng2, oi_v, IN_int, IN2_int, SL_int, OK_ok, OS_nx, OS_rt, OS_bk, OS_ct, SM_some, SM_if, SM_map, SM_bind, BR_bl, Cn.d, List.getElem?_cons_zero, List.getElem?_cons_succ, sl_z, sl_s, hoi, hos, hob, hon, hod, fzi, fzs, fzb, p_add, p_adds, p_sub, p_mul, p_fdiv, p_mod, p_pow, p_neg, p_lt, p_le, p_gt, p_ge, p_eqi, p_eqs, p_nei, p_nes, p_idx, p_lenS, p_lenL, p_lenT, p_lenC, p_abs, p_intb, idxL, idxC, idxT, idxS, Bool.not_false, Bool.not_true, true_and, and_true, decide_eq_true_eq, List.set_cons_zero, List.set_cons_succ, ok_fin, ok_finx, rf_nil, rf_rf, pb_nil, pb_rf, rf_c, pb_c, rf_g, pb_g, rf_pr, pb_pr, rf_mv, pb_mv, rf_and, pb_and, rf_or, pb_or, rf_not, pb_not, rf_fz, pb_fz, rf_chn, pb_chn, rf_slc, pb_slc, rf_ite, pb_ite, rf_call, pb_call, rf_mut, pb_mut, rf_lst, pb_lst, rf_tup, pb_tup, rf_comp, pb_comp, rf_v, pb_v, frz_nd, frz_i, frz_s, frz_b, frz_n, frzs_n, frzs_c, frzs_int, frzs_str, at0, at2, p_in3, eq, er]
      refine ⟨by simp [isHole, lim], ?_⟩
      repeat' (first | split | apply And.intro hlim)
      all_goals first
        | contradiction
        | exact absurd trivial (by assumption)
        | exact ⟨rfl, by simp, _, hr, rfl⟩
        | exact ⟨rfl, by simp, _, hb, rfl⟩
        | exact ⟨_, hb, rfl⟩
    obtain ⟨s, hs, rfl⟩ := he
    have hlen : (l.map vD).length < lim := by rw [List.length_map]; unfold lim; omega
    obtain ⟨q0, rfl⟩ := Int.eq_ofNat_of_zero_le b0.1
    obtain ⟨r0, rfl⟩ := Int.eq_ofNat_of_zero_le b2.1
    simp only [ok_c, ok_g, ok_v, ok_mv, ok_pr, ok_fz, ok_and, ok_or, ok_not, NB_bl, ok_ite, ok_chn, ok_lst, ok_tup, ok_call, ok_mut, ok_slcv, oa_nil, oa_v, oa_c, oa_g, oa_pr, oa_mv, oa_and, oa_or, oa_not, oa_fz, oa_chn, oa_slc, oa_ite, oa_call, oa_mut, oa_lst, oa_tup, oa_comp, or_nil, or_rf, or_v, or_c, or_g, or_pr, or_mv, or_and, or_or, or_not, or_fz, or_chn, or_slc, or_ite, or_call, or_mut, or_lst, or_tup, or_comp, reduceCtorEq, os_nil, os_cons, os_asg, os_unp, os_exs, os_aug, os_ife, os_ret, os_retN, os_rse, os_brk, os_cnt, os_pas, os_kil, os_asgP, os_fors, oi_rng1, oi_rng2, oi_v, IN_int, IN2_int, SL_int, OK_ok, OS_nx, OS_rt, OS_bk, OS_ct, SM_some, SM_if, SM_map, SM_bind, BR_bl, Cn.d, List.getElem?_cons_zero, List.getElem?_cons_succ, sl_z, sl_s, hoi, hos, hob, hon, hod, fzi, fzs, fzb, p_add, p_adds, p_sub, p_mul, p_fdiv, p_mod, p_pow, p_neg, p_lt, p_le, p_gt, p_ge, p_eqi, p_eqs, p_nei, p_nes, p_idx, p_lenS, p_lenL, p_lenT, p_lenC, p_abs, p_intb, idxL, idxC, idxT, idxS, Bool.not_false, Bool.not_true, true_and, and_true, decide_eq_true_eq, List.set_cons_zero, List.set_cons_succ, ok_fin, ok_finx, rf_nil, rf_rf, pb_nil, pb_rf, rf_c, pb_c, rf_g, pb_g, rf_pr, pb_pr, rf_mv, pb_mv, rf_and, pb_and, rf_or, pb_or, rf_not, pb_not, rf_fz, pb_fz, rf_chn, pb_chn, rf_slc, pb_slc, rf_ite, pb_ite, rf_call, pb_call, rf_mut, pb_mut, rf_lst, pb_lst, rf_tup, pb_tup, rf_comp, pb_comp, rf_v, pb_v, frz_nd, frz_i, frz_s, frz_b, frz_n, frzs_n, frzs_c, frzs_int, frzs_str, mu_app hlen]
    refine ⟨rfl, by simp [isHole, lim], ?_⟩
    exact ⟨l ++ [(q0, [ca], r0, s)], .int (cells.getD j 0), .int q0, .str [ca], .int r0, .str s, .int t4, .int t5, by simp [hl], fun v hv' => (List.mem_append.mp hv').elim (hv v) (fun z => by simp at z; subst z; exact ⟨by have := b0.2; simp; omega, ha, by have := b2.2; simp; omega, hs⟩), by simp [vD, anyOwn, fz]⟩
  · obtain ⟨l, x6, x7, x8, x9, x10, x11, x12, hl, hv, rfl⟩ := he
    simp only [ok_c, ok_g, ok_v, ok_mv, ok_pr, ok_fz, ok_and, ok_or, ok_not, NB_bl, ok_ite, ok_chn, ok_lst, ok_tup, ok_call, ok_mut, ok_slcv, oa_nil, oa_v, oa_c, oa_g, oa_pr, oa_mv, oa_and, oa_or, oa_not, oa_fz, oa_chn, oa_slc, oa_ite, oa_call, oa_mut, oa_lst, oa_tup, oa_comp, or_nil, or_rf, or_v, or_c, or_g, or_pr, or_mv, or_and, or_or, or_not, or_fz, or_chn, or_slc, or_ite, or_call, or_mut, or_lst, or_tup, or_comp, reduceCtorEq, os_nil, os_cons, os_asg, os_unp, os_exs, os_aug, os_ife, os_ret, os_retN, os_rse, os_brk, os_cnt, os_pas, os_kil, os_asgP, os_fors, oi_rng1, oi_rng2, oi_v, IN_int, IN2_int, SL_int, OK_ok, OS_nx, OS_rt, OS_bk, OS_ct, SM_some, SM_if, SM_map, SM_bind, BR_bl, Cn.d, List.getElem?_cons_zero, List.getElem?_cons_succ, sl_z, sl_s, hoi, hos, hob, hon, hod, fzi, fzs, fzb, p_add, p_adds, p_sub, p_mul, p_fdiv, p_mod, p_pow, p_neg, p_lt, p_le, p_gt, p_ge, p_eqi, p_eqs, p_nei, p_nes, p_idx, p_lenS, p_lenL, p_lenT, p_lenC, p_abs, p_intb, idxL, idxC, idxT, idxS, Bool.not_false, Bool.not_true, true_and, and_true, decide_eq_true_eq, List.set_cons_zero, List.set_cons_succ, ok_fin, ok_finx, rf_nil, rf_rf, pb_nil, pb_rf, rf_c, pb_c, rf_g, pb_g, rf_pr, pb_pr, rf_mv, pb_mv, rf_and, pb_and, rf_or, pb_or, rf_not, pb_not, rf_fz, pb_fz, rf_chn, pb_chn, rf_slc, pb_slc, rf_ite, pb_ite, rf_call, pb_call, rf_mut, pb_mut, rf_lst, pb_lst, rf_tup, pb_tup, rf_comp, pb_comp, rf_v, pb_v, frz_nd, frz_i, frz_s, frz_b, frz_n, frzs_n, frzs_c, frzs_int, frzs_str]
    exact ⟨by simp [d11], l, rfl, by simp [d11, outE], hl, hv⟩
end
end Wap
set_option Elab.async false
set_option linter.all false
set_option maxRecDepth 100000
set_option maxHeartbeats 400000
/-! S9: same. -/
namespace Wap
open PySem L2
def Pl : Nat → D → Bool
  | _, .non => true
  | _, .bl _ => true
  | _, .int _ => true
  | _, .str _ => true
  | n + 1, .nd .lst _ xs => decide (xs.length ≤ 10000) && xs.all fun d => fz d && Pl n d
  | n + 1, .nd .tup _ xs => decide (xs.length ≤ 10000) && xs.all fun d => fz d && Pl n d
  | _, _ => false
section
variable {a b : Int} {s t : List Nat} {xs ys : List D} {o o' : Bool} {x y : Bool} {d : D}
theorem p_eqb : prim .eq [.bl x, .bl y] = some (.bl (decide (x = y))) := rfl
theorem p_neb : prim .ne [.bl x, .bl y] = some (.bl (!decide (x = y))) := rfl
theorem p_isi {ty : Ty} : prim (.isi ty) [d] = (isiP ty d).map .bl := rfl
theorem p_isN0 : prim .isN [.non] = some (.bl true) := rfl
theorem p_isNi : prim .isN [.int a] = some (.bl false) := rfl
theorem p_isNs : prim .isN [.str s] = some (.bl false) := rfl
theorem p_isNb : prim .isN [.bl x] = some (.bl false) := rfl
theorem p_isNd {kd : Kd} : prim .isN [.nd kd o xs] = some (.bl false) := rfl
theorem p_all {bs : List Bool} : prim .all [.nd .lst o (bs.map .bl)] = some (.bl (bs.all id)) := by
  have : ∀ bs : List Bool, blsOf (bs.map .bl) = some bs := by
    intro bs
    induction bs with
    | nil => rfl
    | cons b bs ih => simp [blsOf, ih]
  show (blsOf (bs.map .bl)).map _ = _
  rw [this]; rfl
end
section
variable {P : Nat → Option Dfn} {k : Nat}
theorem same_sc (h3 : P 3 = some d3) (d : D) (hp : Pl 0 d = true) (k : Nat) : (gam P (k + 1)).run 3 [d, d] = .ok (.bl true) [d, d] := by
  rw [run_eq h3 rfl (by decide) (by decide)]
  refine fl_of ?_
  show OS _ (execs (gam P k) [_, _, _, _, _] [0, 1] [_, _, .hole])
  cases d with
  | non => simp only [ok_c, ok_g, ok_v, ok_mv, ok_pr, ok_fz, ok_and, ok_or, ok_not, NB_bl, ok_ite, ok_chn, ok_lst, ok_tup, ok_call, ok_mut, ok_slcv, oa_nil, oa_v, oa_c, oa_g, oa_pr, oa_mv, oa_and, oa_or, oa_not, oa_fz, oa_chn, oa_slc, oa_ite, oa_call, oa_mut, oa_lst, oa_tup, oa_comp, or_nil, or_rf, or_v, or_c, or_g, or_pr, or_mv, or_and, or_or, or_not, or_fz, or_chn, or_slc, or_ite, or_call, or_mut, or_lst, or_tup, or_comp, reduceCtorEq, os_nil, os_cons, os_asg, os_unp, os_exs, os_aug, os_ife, os_ret, os_retN, os_rse, os_brk, os_cnt, os_pas, os_kil, os_asgP, os_fors, oi_rng1, oi_rng2, oi_v, IN_int, IN2_int, SL_int, OK_ok, OS_nx, OS_rt, OS_bk, OS_ct, SM_some, SM_if, SM_map, SM_bind, BR_bl, Cn.d, List.getElem?_cons_zero, List.getElem?_cons_succ, sl_z, sl_s, hoi, hos, hob, hon, hod, fzi, fzs, fzb, p_add, p_adds, p_sub, p_mul, p_fdiv, p_mod, p_pow, p_neg, p_lt, p_le, p_gt, p_ge, p_eqi, p_eqs, p_nei, p_nes, p_idx, p_lenS, p_lenL, p_lenT, p_lenC, p_abs, p_intb, idxL, idxC, idxT, idxS, Bool.not_false, Bool.not_true, true_and, and_true, decide_eq_true_eq, List.set_cons_zero, List.set_cons_succ, ok_fin, ok_finx, rf_nil, rf_rf, pb_nil, pb_rf, rf_c, pb_c, rf_g, pb_g, rf_pr, pb_pr, rf_mv, pb_mv, rf_and, pb_and, rf_or, pb_or, rf_not, pb_not, rf_fz, pb_fz, rf_chn, pb_chn, rf_slc, pb_slc, rf_ite, pb_ite, rf_call, pb_call, rf_mut, pb_mut, rf_lst, pb_lst, rf_tup, pb_tup, rf_comp, pb_comp, rf_v, pb_v, frz_nd, frz_i, frz_s, frz_b, frz_n, frzs_n, frzs_c, frzs_int, frzs_str, p_isN0]; simp [d3, outE]
  | bl x => simp only [ok_c, ok_g, ok_v, ok_mv, ok_pr, ok_fz, ok_and, ok_or, ok_not, NB_bl, ok_ite, ok_chn, ok_lst, ok_tup, ok_call, ok_mut, ok_slcv, oa_nil, oa_v, oa_c, oa_g, oa_pr, oa_mv, oa_and, oa_or, oa_not, oa_fz, oa_chn, oa_slc, oa_ite, oa_call, oa_mut, oa_lst, oa_tup, oa_comp, or_nil, or_rf, or_v, or_c, or_g, or_pr, or_mv, or_and, or_or, or_not, or_fz, or_chn, or_slc, or_ite, or_call, or_mut, or_lst, or_tup, or_comp, reduceCtorEq, os_nil, os_cons, os_asg, os_unp, os_exs, os_aug, os_ife, os_ret, os_retN, os_rse, os_brk, os_cnt, os_pas, os_kil, os_asgP, os_fors, oi_rng1, oi_rng2, oi_v, IN_int, IN2_int, SL_int, OK_ok, OS_nx, OS_rt, OS_bk, OS_ct, SM_some, SM_if, SM_map, SM_bind, BR_bl, Cn.d, List.getElem?_cons_zero, List.getElem?_cons_succ, sl_z, sl_s, hoi, hos, hob, hon, hod, fzi, fzs, fzb, p_add, p_adds, p_sub, p_mul, p_fdiv, p_mod, p_pow, p_neg, p_lt, p_le, p_gt, p_ge, p_eqi, p_eqs, p_nei, p_nes, p_idx, p_lenS, p_lenL, p_lenT, p_lenC, p_abs, p_intb, idxL, idxC, idxT, idxS, Bool.not_false, Bool.not_true, true_and, and_true, decide_eq_true_eq, List.set_cons_zero, List.set_cons_succ, ok_fin, ok_finx, rf_nil, rf_rf, pb_nil, pb_rf, rf_c, pb_c, rf_g, pb_g, rf_pr, pb_pr, rf_mv, pb_mv, rf_and, pb_and, rf_or, pb_or, rf_not, pb_not, rf_fz, pb_fz, rf_chn, pb_chn, rf_slc, pb_slc, rf_ite, pb_ite, rf_call, pb_call, rf_mut, pb_mut, rf_lst, pb_lst, rf_tup, pb_tup, rf_comp, pb_comp, rf_v, pb_v, frz_nd, frz_i, frz_s, frz_b, frz_n, frzs_n, frzs_c, frzs_int, frzs_str, p_isNb, p_isi, isiP, p_eqb]; simp [d3, outE]
  | int x => simp only [ok_c, ok_g, ok_v, ok_mv, ok_pr, ok_fz, ok_and, ok_or, ok_not, NB_bl, ok_ite, ok_chn, ok_lst, ok_tup, ok_call, ok_mut, ok_slcv, oa_nil, oa_v, oa_c, oa_g, oa_pr, oa_mv, oa_and, oa_or, oa_not, oa_fz, oa_chn, oa_slc, oa_ite, oa_call, oa_mut, oa_lst, oa_tup, oa_comp, or_nil, or_rf, or_v, or_c, or_g, or_pr, or_mv, or_and, or_or, or_not, or_fz, or_chn, or_slc, or_ite, or_call, or_mut, or_lst, or_tup, or_comp, reduceCtorEq, os_nil, os_cons, os_asg, os_unp, os_exs, os_aug, os_ife, os_ret, os_retN, os_rse, os_brk, os_cnt, os_pas, os_kil, os_asgP, os_fors, oi_rng1, oi_rng2, oi_v, IN_int, IN2_int, SL_int, OK_ok, OS_nx, OS_rt, OS_bk, OS_ct, SM_some, SM_if, SM_map, SM_bind, BR_bl, Cn.d, List.getElem?_cons_zero, List.getElem?_cons_succ, sl_z, sl_s, hoi, hos, hob, hon, hod, fzi, fzs, fzb, p_add, p_adds, p_sub, p_mul, p_fdiv, p_mod, p_pow, p_neg, p_lt, p_le, p_gt, p_ge, p_eqi, p_eqs, p_nei, p_nes, p_idx, p_lenS, p_lenL, p_lenT, p_lenC, p_abs, p_intb, idxL, idxC, idxT, idxS, Bool.not_false, Bool.not_true, true_and, and_true, decide_eq_true_eq, List.set_cons_zero, List.set_cons_succ, ok_fin, ok_finx, rf_nil, rf_rf, pb_nil, pb_rf, rf_c, pb_c, rf_g, pb_g, rf_pr, pb_pr, rf_mv, pb_mv, rf_and, pb_and, rf_or, pb_or, rf_not, pb_not, rf_fz, pb_fz, rf_chn, pb_chn, rf_slc, pb_slc, rf_ite, pb_ite, rf_call, pb_call, rf_mut, pb_mut, rf_lst, pb_lst, rf_tup, pb_tup, rf_comp, pb_comp, rf_v, pb_v, frz_nd, frz_i, frz_s, frz_b, frz_n, frzs_n, frzs_c, frzs_int, frzs_str, p_isNi, p_isi, isiP, p_eqb]; simp [d3, outE]
  | str x => simp only [ok_c, ok_g, ok_v, ok_mv, ok_pr, ok_fz, ok_and, ok_or, ok_not, NB_bl, ok_ite, ok_chn, ok_lst, ok_tup, ok_call, ok_mut, ok_slcv, oa_nil, oa_v, oa_c, oa_g, oa_pr, oa_mv, oa_and, oa_or, oa_not, oa_fz, oa_chn, oa_slc, oa_ite, oa_call, oa_mut, oa_lst, oa_tup, oa_comp, or_nil, or_rf, or_v, or_c, or_g, or_pr, or_mv, or_and, or_or, or_not, or_fz, or_chn, or_slc, or_ite, or_call, or_mut, or_lst, or_tup, or_comp, reduceCtorEq, os_nil, os_cons, os_asg, os_unp, os_exs, os_aug, os_ife, os_ret, os_retN, os_rse, os_brk, os_cnt, os_pas, os_kil, os_asgP, os_fors, oi_rng1, oi_rng2, oi_v, IN_int, IN2_int, SL_int, OK_ok, OS_nx, OS_rt, OS_bk, OS_ct, SM_some, SM_if, SM_map, SM_bind, BR_bl, Cn.d, List.getElem?_cons_zero, List.getElem?_cons_succ, sl_z, sl_s, hoi, hos, hob, hon, hod, fzi, fzs, fzb, p_add, p_adds, p_sub, p_mul, p_fdiv, p_mod, p_pow, p_neg, p_lt, p_le, p_gt, p_ge, p_eqi, p_eqs, p_nei, p_nes, p_idx, p_lenS, p_lenL, p_lenT, p_lenC, p_abs, p_intb, idxL, idxC, idxT, idxS, Bool.not_false, Bool.not_true, true_and, and_true, decide_eq_true_eq, List.set_cons_zero, List.set_cons_succ, ok_fin, ok_finx, rf_nil, rf_rf, pb_nil, pb_rf, rf_c, pb_c, rf_g, pb_g, rf_pr, pb_pr, rf_mv, pb_mv, rf_and, pb_and, rf_or, pb_or, rf_not, pb_not, rf_fz, pb_fz, rf_chn, pb_chn, rf_slc, pb_slc, rf_ite, pb_ite, rf_call, pb_call, rf_mut, pb_mut, rf_lst, pb_lst, rf_tup, pb_tup, rf_comp, pb_comp, rf_v, pb_v, frz_nd, frz_i, frz_s, frz_b, frz_n, frzs_n, frzs_c, frzs_int, frzs_str, p_isNs, p_isi, isiP, p_eqb]; simp [d3, outE]
  | hole => simp [Pl] at hp
  | nd kd o xs => cases kd <;> simp [Pl] at hp
theorem same_comp (kd : Kd) (o o2 : Bool) (xs : List D) (hlen : xs.length ≤ 10000) (hall : ∀ d ∈ xs, fz d = true ∧ (gam P (k + 1)).run 3 [d, d] = .ok (.bl true) [d, d]) (Q : D → List D → Prop) (X : Nat → List D → Prop) (i1 : idxP (.nd kd o2 xs) = fun i => (atI xs i).bind fun d => if fz d then some d else none) (i2 : idxP (.nd kd o xs) = fun i => (atI xs i).bind fun d => if fz d then some d else none) (pl : prim .len [.nd kd o xs] = some (.int xs.length))
    (hQ : Q (.nd .lst true (((List.range xs.length).map fun _ => true).map .bl)) [.nd kd o2 xs, .nd kd o xs, .hole]) :
          OK X Q (ev (gam P (k + 1)) (.comp (.one 2) .rng1 [(.pr .len [(.v 1)])] [] (.fz (.call 3 [(.pr .idx [(.v 0), (.v 2)]), (.pr .idx [(.v 1), (.v 2)])])) [2]) [0, 1] [.nd kd o2 xs, .nd kd o xs, .hole]) := by
  have sm : small (xs.length : Int) = true := by simp [small]; omega
  refine ok_comp (n := xs.length) (fun j => .int j) (fun _ => some (.bl true)) (by unfold lim; omega) (by simp [tgIn, isHole]) ?_ ?_
  · simp only [ok_c, ok_g, ok_v, ok_mv, ok_pr, ok_fz, ok_and, ok_or, ok_not, NB_bl, ok_ite, ok_chn, ok_lst, ok_tup, ok_call, ok_mut, ok_slcv, oa_nil, oa_v, oa_c, oa_g, oa_pr, oa_mv, oa_and, oa_or, oa_not, oa_fz, oa_chn, oa_slc, oa_ite, oa_call, oa_mut, oa_lst, oa_tup, oa_comp, or_nil, or_rf, or_v, or_c, or_g, or_pr, or_mv, or_and, or_or, or_not, or_fz, or_chn, or_slc, or_ite, or_call, or_mut, or_lst, or_tup, or_comp, reduceCtorEq, os_nil, os_cons, os_asg, os_unp, os_exs, os_aug, os_ife, os_ret, os_retN, os_rse, os_brk, os_cnt, os_pas, os_kil, os_asgP, os_fors, oi_rng1, oi_rng2, oi_v, IN_int, IN2_int, SL_int, OK_ok, OS_nx, OS_rt, OS_bk, OS_ct, SM_some, SM_if, SM_map, SM_bind, BR_bl, Cn.d, List.getElem?_cons_zero, List.getElem?_cons_succ, sl_z, sl_s, hoi, hos, hob, hon, hod, fzi, fzs, fzb, p_add, p_adds, p_sub, p_mul, p_fdiv, p_mod, p_pow, p_neg, p_lt, p_le, p_gt, p_ge, p_eqi, p_eqs, p_nei, p_nes, p_idx, p_lenS, p_lenL, p_lenT, p_lenC, p_abs, p_intb, idxL, idxC, idxT, idxS, Bool.not_false, Bool.not_true, true_and, and_true, decide_eq_true_eq, List.set_cons_zero, List.set_cons_succ, ok_fin, ok_finx, rf_nil, rf_rf, pb_nil, pb_rf, rf_c, pb_c, rf_g, pb_g, rf_pr, pb_pr, rf_mv, pb_mv, rf_and, pb_and, rf_or, pb_or, rf_not, pb_not, rf_fz, pb_fz, rf_chn, pb_chn, rf_slc, pb_slc, rf_ite, pb_ite, rf_call, pb_call, rf_mut, pb_mut, rf_lst, pb_lst, rf_tup, pb_tup, rf_comp, pb_comp, rf_v, pb_v, frz_nd, frz_i, frz_s, frz_b, frz_n, frzs_n, frzs_c, frzs_int, frzs_str, pl]
    refine ⟨sm, fun j hj => by simp [itm, hj], by simp [itm], fun j hj => ?_⟩
    rw [sb_one]
    refine ⟨rfl, rfl, by simp [kills], ?_⟩
    have hh := hall _ (List.getElem_mem hj)
    have at_ : atI xs (j : Int) = some xs[j] := by rw [atI_nat, List.getElem?_eq_getElem hj]
    simp only [evC, ok_c, ok_g, ok_v, ok_mv, ok_pr, ok_fz, ok_and, ok_or, ok_not, NB_bl, ok_ite, ok_chn, ok_lst, ok_tup, ok_call, ok_mut, ok_slcv, oa_nil, oa_v, oa_c, oa_g, oa_pr, oa_mv, oa_and, oa_or, oa_not, oa_fz, oa_chn, oa_slc, oa_ite, oa_call, oa_mut, oa_lst, oa_tup, oa_comp, or_nil, or_rf, or_v, or_c, or_g, or_pr, or_mv, or_and, or_or, or_not, or_fz, or_chn, or_slc, or_ite, or_call, or_mut, or_lst, or_tup, or_comp, reduceCtorEq, os_nil, os_cons, os_asg, os_unp, os_exs, os_aug, os_ife, os_ret, os_retN, os_rse, os_brk, os_cnt, os_pas, os_kil, os_asgP, os_fors, oi_rng1, oi_rng2, oi_v, IN_int, IN2_int, SL_int, OK_ok, OS_nx, OS_rt, OS_bk, OS_ct, SM_some, SM_if, SM_map, SM_bind, BR_bl, Cn.d, List.getElem?_cons_zero, List.getElem?_cons_succ, sl_z, sl_s, hoi, hos, hob, hon, hod, fzi, fzs, fzb, p_add, p_adds, p_sub, p_mul, p_fdiv, p_mod, p_pow, p_neg, p_lt, p_le, p_gt, p_ge, p_eqi, p_eqs, p_nei, p_nes, p_idx, p_lenS, p_lenL, p_lenT, p_lenC, p_abs, p_intb, idxL, idxC, idxT, idxS, Bool.not_false, Bool.not_true, true_and, and_true, decide_eq_true_eq, List.set_cons_zero, List.set_cons_succ, ok_fin, ok_finx, rf_nil, rf_rf, pb_nil, pb_rf, rf_c, pb_c, rf_g, pb_g, rf_pr, pb_pr, rf_mv, pb_mv, rf_and, pb_and, rf_or, pb_or, rf_not, pb_not, rf_fz, pb_fz, rf_chn, pb_chn, rf_slc, pb_slc, rf_ite, pb_ite, rf_call, pb_call, rf_mut, pb_mut, rf_lst, pb_lst, rf_tup, pb_tup, rf_comp, pb_comp, rf_v, pb_v, frz_nd, frz_i, frz_s, frz_b, frz_n, frzs_n, frzs_c, frzs_int, frzs_str, itFx, kills, List.foldl_cons, List.foldl_nil, i1, i2, at_, hh.1, if_true, hh.2]
  · have e1 : (List.range xs.length).filterMap (fun _ => some (D.bl true)) = ((List.range xs.length).map fun _ => true).map .bl := by
      rw [List.map_map, ← List.filterMap_eq_map]; rfl
    rw [e1]
    exact hQ
theorem same_nd (h3 : P 3 = some d3) (kd : Kd) (hk1 : kd = .lst ∨ kd = .tup) (o o2 : Bool) (xs : List D) (hlen : xs.length ≤ 10000) (hall : ∀ d ∈ xs, fz d = true ∧ (gam P (k + 1)).run 3 [d, d] = .ok (.bl true) [d, d]) :
    (gam P (k + 2)).run 3 [.nd kd o2 xs, .nd kd o xs] = .ok (.bl true) [.nd kd o2 xs, .nd kd o xs] := by
  rw [run_eq h3 rfl (by decide) (by decide)]
  refine fl_of ?_
  show OS _ (execs (gam P (k + 1)) [_, _, _, _, _] [0, 1] [_, _, .hole])
  have e2 : (((List.range xs.length).map fun _ => true).all id) = true := by simp
  rcases hk1 with rfl | rfl
  · simp only [ok_c, ok_g, ok_v, ok_mv, ok_pr, ok_fz, ok_and, ok_or, ok_not, NB_bl, ok_ite, ok_chn, ok_lst, ok_tup, ok_call, ok_mut, ok_slcv, oa_nil, oa_v, oa_c, oa_g, oa_pr, oa_mv, oa_and, oa_or, oa_not, oa_fz, oa_chn, oa_slc, oa_ite, oa_call, oa_mut, oa_lst, oa_tup, oa_comp, or_nil, or_rf, or_v, or_c, or_g, or_pr, or_mv, or_and, or_or, or_not, or_fz, or_chn, or_slc, or_ite, or_call, or_mut, or_lst, or_tup, or_comp, reduceCtorEq, os_nil, os_cons, os_asg, os_unp, os_exs, os_aug, os_ife, os_ret, os_retN, os_rse, os_brk, os_cnt, os_pas, os_kil, os_asgP, os_fors, oi_rng1, oi_rng2, oi_v, IN_int, IN2_int, SL_int, OK_ok, OS_nx, OS_rt, OS_bk, OS_ct, SM_some, SM_if, SM_map, SM_bind, BR_bl, Cn.d, List.getElem?_cons_zero, List.getElem?_cons_succ, sl_z, sl_s, hoi, hos, hob, hon, hod, fzi, fzs, fzb, p_add, p_adds, p_sub, p_mul, p_fdiv, p_mod, p_pow, p_neg, p_lt, p_le, p_gt, p_ge, p_eqi, p_eqs, p_nei, p_nes, p_idx, p_lenS, p_lenL, p_lenT, p_lenC, p_abs, p_intb, idxL, idxC, idxT, idxS, Bool.not_false, Bool.not_true, true_and, and_true, decide_eq_true_eq, List.set_cons_zero, List.set_cons_succ, ok_fin, ok_finx, rf_nil, rf_rf, pb_nil, pb_rf, rf_c, pb_c, rf_g, pb_g, rf_pr, pb_pr, rf_mv, pb_mv, rf_and, pb_and, rf_or, pb_or, rf_not, pb_not, rf_fz, pb_fz, rf_chn, pb_chn, rf_slc, pb_slc, rf_ite, pb_ite, rf_call, pb_call, rf_mut, pb_mut, rf_lst, pb_lst, rf_tup, pb_tup, rf_comp, pb_comp, rf_v, pb_v, frz_nd, frz_i, frz_s, frz_b, frz_n, frzs_n, frzs_c, frzs_int, frzs_str, p_isNd, p_isi, isiP, p_neb, p_eqb, Bool.false_eq_true, if_false, if_true, decide_true, Option.map_some, reduceIte]
    refine same_comp .lst o o2 xs hlen hall _ _ rfl rfl rfl ?_
    rw [p_all, e2]
    simp only [SM_some, isHole, true_and]
    exact ⟨by simp [d3], by simp [d3, outE]⟩
  · simp only [ok_c, ok_g, ok_v, ok_mv, ok_pr, ok_fz, ok_and, ok_or, ok_not, NB_bl, ok_ite, ok_chn, ok_lst, ok_tup, ok_call, ok_mut, ok_slcv, oa_nil, oa_v, oa_c, oa_g, oa_pr, oa_mv, oa_and, oa_or, oa_not, oa_fz, oa_chn, oa_slc, oa_ite, oa_call, oa_mut, oa_lst, oa_tup, oa_comp, or_nil, or_rf, or_v, or_c, or_g, or_pr, or_mv, or_and, or_or, or_not, or_fz, or_chn, or_slc, or_ite, or_call, or_mut, or_lst, or_tup, or_comp, reduceCtorEq, os_nil, os_cons, os_asg, os_unp, os_exs, os_aug, os_ife, os_ret, os_retN, os_rse, os_brk, os_cnt, os_pas, os_kil, os_asgP, os_fors, oi_rng1, oi_rng2, oi_v, IN_int, IN2_int, SL_int, OK_ok, OS_nx, OS_rt, OS_bk, OS_ct, SM_some, SM_if, SM_map, SM_bind, BR_bl, Cn.d, List.getElem?_cons_zero, List.getElem?_cons_succ, sl_z, sl_s, hoi, hos, hob, hon, hod, fzi, fzs, fzb, p_add, p_adds, p_sub, p_mul, p_fdiv, p_mod, p_pow, p_neg, p_lt, p_le, p_gt, p_ge, p_eqi, p_eqs, p_nei, p_nes, p_idx, p_lenS, p_lenL, p_lenT, p_lenC, p_abs, p_intb, idxL, idxC, idxT, idxS, Bool.not_false, Bool.not_true, true_and, and_true, decide_eq_true_eq, List.set_cons_zero, List.set_cons_succ, ok_fin, ok_finx, rf_nil, rf_rf, pb_nil, pb_rf, rf_c, pb_c, rf_g, pb_g, rf_pr, pb_pr, rf_mv, pb_mv, rf_and, pb_and, rf_or, pb_or, rf_not, pb_not, rf_fz, pb_fz, rf_chn, pb_chn, rf_slc, pb_slc, rf_ite, pb_ite, rf_call, pb_call, rf_mut, pb_mut, rf_lst, pb_lst, rf_tup, pb_tup, rf_comp, pb_comp, rf_v, pb_v, frz_nd, frz_i, frz_s, frz_b, frz_n, frzs_n, frzs_c, frzs_int, frzs_str, p_isNd, p_isi, isiP, p_neb, p_eqb, Bool.false_eq_true, if_false, if_true, decide_true, Option.map_some, reduceIte]
    refine same_comp .tup o o2 xs hlen hall _ _ rfl rfl rfl ?_
    rw [p_all, e2]
    simp only [SM_some, isHole, true_and]
    exact ⟨by simp [d3], by simp [d3, outE]⟩
/-- a value and itself, or its list under another mark -/
theorem same_ok (h3 : P 3 = some d3) : ∀ (n : Nat) (d : D), Pl n d = true → ∀ k, n ≤ k → (gam P (k + 1)).run 3 [d, d] = .ok (.bl true) [d, d] := by
  intro n
  induction n with
  | zero => intro d hp k _; exact same_sc h3 d hp k
  | succ n ih =>
    intro d hp k hk
    cases d with
    | nd kd o xs =>
      have hx : (kd = .lst ∨ kd = .tup) ∧ xs.length ≤ 10000 ∧ ∀ d ∈ xs, fz d = true ∧ Pl n d = true := by
        cases kd <;> simp [Pl] at hp <;> simpa using hp
      obtain ⟨hk1, hlen, hall⟩ := hx
      obtain ⟨k, rfl⟩ : ∃ k', k = k' + 1 := ⟨k - 1, by omega⟩
      exact same_nd h3 kd hk1 o o xs hlen fun d hd => ⟨(hall d hd).1, ih d (hall d hd).2 k (by omega)⟩
    | hole => simp [Pl] at hp
    | _ => exact same_sc h3 _ (by simp [Pl]) k
theorem same_nd2 (h3 : P 3 = some d3) (n : Nat) (kd : Kd) (o o2 : Bool) (xs : List D) (hp : Pl (n + 1) (.nd kd o xs) = true) (k : Nat) (hk : n + 1 ≤ k) : (gam P (k + 1)).run 3 [.nd kd o2 xs, .nd kd o xs] = .ok (.bl true) [.nd kd o2 xs, .nd kd o xs] := by
  have hx : (kd = .lst ∨ kd = .tup) ∧ xs.length ≤ 10000 ∧ ∀ d ∈ xs, fz d = true ∧ Pl n d = true := by
    cases kd <;> simp [Pl] at hp <;> simpa using hp
  obtain ⟨hk1, hlen, hall⟩ := hx
  obtain ⟨k, rfl⟩ : ∃ k', k = k' + 1 := ⟨k - 1, by omega⟩
  exact same_nd h3 kd hk1 o o2 xs hlen fun d hd => ⟨(hall d hd).1, same_ok h3 n d (hall d hd).2 k (by omega)⟩
end
end Wap
set_option Elab.async false
set_option linter.all false
set_option maxRecDepth 100000
set_option maxHeartbeats 400000
/-! S10: keeps, by the program and by the law. -/
namespace Wap
open PySem L2
/-- the sign at a place -/
def ch (row : List Nat) (j : Nat) : Nat := row.getD j 0
def keep1 (row : List Nat) (v : Vow) : Bool := !(decide ([ch row v.1] = v.2.1) && !decide ([ch row v.2.2.1] = v.2.2.2))
theorem atC {row : List Nat} {j : Nat} (h : j < row.length) : atI row (j : Int) = some (ch row j) := by
  rw [atI_nat]; simp [h, ch]
theorem atN {α : Type} {row : List α} {j : Nat} {z : α} (h : j < row.length) : atI row (j : Int) = some (row.getD j z) := by
  rw [atI_nat]; simp [h]
section
variable {P : Nat → Option Dfn} {k : Nat}
theorem keeps_ok (h0 : P 0 = some d0) (o : Bool) (row : List Nat) (vows : List Vow) (n : Nat) (hr : row.length = n) (hn : n ≤ 100) (hv : ∀ v ∈ vows, VOk n v) (hl : vows.length ≤ 1000) :
    (gam P (k + 1)).run 0 [.str row, .nd .lst o (vows.map vD)] = .ok (.bl (vows.all (keep1 row))) [.str row, .nd .lst o (vows.map vD)] := by
  rw [run_eq h0 rfl (by decide) (by decide)]
  refine fl_of ?_
  show OS _ (execs (gam P k) [_, _] [0, 1] [_, _, .hole, .hole, .hole, .hole])
  have hlim : row.length ≤ lim := by unfold lim; omega
  simp only [ok_c, ok_g, ok_v, ok_mv, ok_pr, ok_fz, ok_and, ok_or, ok_not, NB_bl, ok_ite, ok_chn, ok_lst, ok_tup, ok_call, ok_mut, ok_slcv, oa_nil, oa_v, oa_c, oa_g, oa_pr, oa_mv, oa_and, oa_or, oa_not, oa_fz, oa_chn, oa_slc, oa_ite, oa_call, oa_mut, oa_lst, oa_tup, oa_comp, or_nil, or_rf, or_v, or_c, or_g, or_pr, or_mv, or_and, or_or, or_not, or_fz, or_chn, or_slc, or_ite, or_call, or_mut, or_lst, or_tup, or_comp, reduceCtorEq, os_nil, os_cons, os_asg, os_unp, os_exs, os_aug, os_ife, os_ret, os_retN, os_rse, os_brk, os_cnt, os_pas, os_kil, os_asgP, os_fors, oi_rng1, oi_rng2, oi_v, IN_int, IN2_int, SL_int, OK_ok, OS_nx, OS_rt, OS_bk, OS_ct, SM_some, SM_if, SM_map, SM_bind, BR_bl, Cn.d, List.getElem?_cons_zero, List.getElem?_cons_succ, sl_z, sl_s, hoi, hos, hob, hon, hod, fzi, fzs, fzb, p_add, p_adds, p_sub, p_mul, p_fdiv, p_mod, p_pow, p_neg, p_lt, p_le, p_gt, p_ge, p_eqi, p_eqs, p_nei, p_nes, p_idx, p_lenS, p_lenL, p_lenT, p_lenC, p_abs, p_intb, idxL, idxC, idxT, idxS, Bool.not_false, Bool.not_true, true_and, and_true, decide_eq_true_eq, List.set_cons_zero, List.set_cons_succ, ok_fin, ok_finx, rf_nil, rf_rf, pb_nil, pb_rf, rf_c, pb_c, rf_g, pb_g, rf_pr, pb_pr, rf_mv, pb_mv, rf_and, pb_and, rf_or, pb_or, rf_not, pb_not, rf_fz, pb_fz, rf_chn, pb_chn, rf_slc, pb_slc, rf_ite, pb_ite, rf_call, pb_call, rf_mut, pb_mut, rf_lst, pb_lst, rf_tup, pb_tup, rf_comp, pb_comp, rf_v, pb_v, frz_nd, frz_i, frz_s, frz_b, frz_n, frzs_n, frzs_c, frzs_int, frzs_str, seqSlot]
  refine loop_rule (n := vows.length) (x := fun j => vD (vows.getD j (0, [], 0, []))) (fun j e => (vows.take j).all (keep1 row) = true ∧ ∃ x2 x3 x4 x5, e = [.str row, .nd .lst o (vows.map vD), x2, x3, x4, x5]) (by unfold fuel; omega) ⟨rfl, _, _, _, _, rfl⟩ (fun j e hj he => ?_) (fun e he => ?_) (fun j e hj he => ?_) (fun e he => ?_)
  · obtain ⟨_, x2, x3, x4, x5, rfl⟩ := he
    simp [itm, hj]
  · obtain ⟨_, x2, x3, x4, x5, rfl⟩ := he
    simp [itm]
  · obtain ⟨ha, x2, x3, x4, x5, rfl⟩ := he
    have eg : vows.getD j (0, [], 0, []) = vows[j] := by simp [hj]
    have hm := List.getElem_mem hj
    obtain ⟨v1, v2, v3, v4⟩ := hv _ hm
    have et : vows.take (j + 1) = vows.take j ++ [vows[j]] := by rw [List.take_succ, List.getElem?_eq_getElem hj]; rfl
    rw [os_turn, eg]
    have w1 : vows[j].1 < row.length := by omega
    have w3 : vows[j].2.2.1 < row.length := by omega
    generalize vows[j] = v at *
    unfold vD
    rw [sb_tup]
    refine ⟨⟨rfl, by simp [fz], by simp [itFx]⟩, ?_⟩
    simp only [itFx, List.zip_cons_cons, List.zip_nil_right, List.foldl_cons, List.foldl_nil, ok_c, ok_g, ok_v, ok_mv, ok_pr, ok_fz, ok_and, ok_or, ok_not, NB_bl, ok_ite, ok_chn, ok_lst, ok_tup, ok_call, ok_mut, ok_slcv, oa_nil, oa_v, oa_c, oa_g, oa_pr, oa_mv, oa_and, oa_or, oa_not, oa_fz, oa_chn, oa_slc, oa_ite, oa_call, oa_mut, oa_lst, oa_tup, oa_comp, or_nil, or_rf, or_v, or_c, or_g, or_pr, or_mv, or_and, or_or, or_not, or_fz, or_chn, or_slc, or_ite, or_call, or_mut, or_lst, or_tup, or_comp, reduceCtorEq, os_nil, os_cons, os_asg, os_unp, os_exs, os_aug, os_ife, os_ret, os_retN, os_rse, os_brk, os_cnt, os_pas, os_kil, os_asgP, os_fors, oi_rng1, oi_rng2, oi_v, IN_int, IN2_int, SL_int, OK_ok, OS_nx, OS_rt, OS_bk, OS_ct, SM_some, SM_if, SM_map, SM_bind, BR_bl, Cn.d, List.getElem?_cons_zero, List.getElem?_cons_succ, sl_z, sl_s, hoi, hos, hob, hon, hod, fzi, fzs, fzb, p_add, p_adds, p_sub, p_mul, p_fdiv, p_mod, p_pow, p_neg, p_lt, p_le, p_gt, p_ge, p_eqi, p_eqs, p_nei, p_nes, p_idx, p_lenS, p_lenL, p_lenT, p_lenC, p_abs, p_intb, idxL, idxC, idxT, idxS, Bool.not_false, Bool.not_true, true_and, and_true, decide_eq_true_eq, List.set_cons_zero, List.set_cons_succ, ok_fin, ok_finx, rf_nil, rf_rf, pb_nil, pb_rf, rf_c, pb_c, rf_g, pb_g, rf_pr, pb_pr, rf_mv, pb_mv, rf_and, pb_and, rf_or, pb_or, rf_not, pb_not, rf_fz, pb_fz, rf_chn, pb_chn, rf_slc, pb_slc, rf_ite, pb_ite, rf_call, pb_call, rf_mut, pb_mut, rf_lst, pb_lst, rf_tup, pb_tup, rf_comp, pb_comp, rf_v, pb_v, frz_nd, frz_i, frz_s, frz_b, frz_n, frzs_n, frzs_c, frzs_int, frzs_str, atC w1, atC w3, hlim]
    by_cases c1 : [ch row v.1] = v.2.1
    · by_cases c2 : [ch row v.2.2.1] = v.2.2.2
      · have hk : keep1 row v = true := by simp [keep1, c1, c2]
        simp only [c1, c2, decide_true, if_true, Bool.not_true, Bool.false_eq_true, if_false, reduceIte]
        exact ⟨by rw [et, List.all_append, ha]; simp [hk], _, _, _, _, rfl⟩
      · have hf : vows.all (keep1 row) = false := List.all_eq_false.mpr ⟨_, hm, by simp [keep1, c1, c2]⟩
        simp only [c1, c2, decide_true, decide_false, if_true, Bool.not_false, reduceIte, hf]
        simp [d0, outE, vD]
    · have hk : keep1 row v = true := by simp [keep1, c1]
      simp only [c1, decide_false, Bool.false_eq_true, if_false, reduceIte]
      exact ⟨by rw [et, List.all_append, ha]; simp [hk], _, _, _, _, rfl⟩
  · obtain ⟨ha, x2, x3, x4, x5, rfl⟩ := he
    rw [List.take_length] at ha
    simp only [ok_c, ok_g, ok_v, ok_mv, ok_pr, ok_fz, ok_and, ok_or, ok_not, NB_bl, ok_ite, ok_chn, ok_lst, ok_tup, ok_call, ok_mut, ok_slcv, oa_nil, oa_v, oa_c, oa_g, oa_pr, oa_mv, oa_and, oa_or, oa_not, oa_fz, oa_chn, oa_slc, oa_ite, oa_call, oa_mut, oa_lst, oa_tup, oa_comp, or_nil, or_rf, or_v, or_c, or_g, or_pr, or_mv, or_and, or_or, or_not, or_fz, or_chn, or_slc, or_ite, or_call, or_mut, or_lst, or_tup, or_comp, reduceCtorEq, os_nil, os_cons, os_asg, os_unp, os_exs, os_aug, os_ife, os_ret, os_retN, os_rse, os_brk, os_cnt, os_pas, os_kil, os_asgP, os_fors, oi_rng1, oi_rng2, oi_v, IN_int, IN2_int, SL_int, OK_ok, OS_nx, OS_rt, OS_bk, OS_ct, SM_some, SM_if, SM_map, SM_bind, BR_bl, Cn.d, List.getElem?_cons_zero, List.getElem?_cons_succ, sl_z, sl_s, hoi, hos, hob, hon, hod, fzi, fzs, fzb, p_add, p_adds, p_sub, p_mul, p_fdiv, p_mod, p_pow, p_neg, p_lt, p_le, p_gt, p_ge, p_eqi, p_eqs, p_nei, p_nes, p_idx, p_lenS, p_lenL, p_lenT, p_lenC, p_abs, p_intb, idxL, idxC, idxT, idxS, Bool.not_false, Bool.not_true, true_and, and_true, decide_eq_true_eq, List.set_cons_zero, List.set_cons_succ, ok_fin, ok_finx, rf_nil, rf_rf, pb_nil, pb_rf, rf_c, pb_c, rf_g, pb_g, rf_pr, pb_pr, rf_mv, pb_mv, rf_and, pb_and, rf_or, pb_or, rf_not, pb_not, rf_fz, pb_fz, rf_chn, pb_chn, rf_slc, pb_slc, rf_ite, pb_ite, rf_call, pb_call, rf_mut, pb_mut, rf_lst, pb_lst, rf_tup, pb_tup, rf_comp, pb_comp, rf_v, pb_v, frz_nd, frz_i, frz_s, frz_b, frz_n, frzs_n, frzs_c, frzs_int, frzs_str]
    simp [d0, outE, ha]
theorem law_keeps_ok (h12 : P 12 = some d12) (o : Bool) (row : List Nat) (vows : List Vow) (n : Nat) (hr : row.length = n) (hn : n ≤ 100) (hv : ∀ v ∈ vows, VOk n v) (hl : vows.length ≤ 1000) :
    (gam P (k + 1)).run 12 [.str row, .nd .lst o (vows.map vD)] = .ok (.bl (vows.all (keep1 row))) [.str row, .nd .lst o (vows.map vD)] := by
  rw [run_eq h12 rfl (by decide) (by decide)]
  refine fl_of ?_
  show OS _ (execs (gam P k) [_] [0, 1] [_, _, .hole])
  have hlim : row.length ≤ lim := by unfold lim; omega
  simp only [ok_c, ok_g, ok_v, ok_mv, ok_pr, ok_fz, ok_and, ok_or, ok_not, NB_bl, ok_ite, ok_chn, ok_lst, ok_tup, ok_call, ok_mut, ok_slcv, oa_nil, oa_v, oa_c, oa_g, oa_pr, oa_mv, oa_and, oa_or, oa_not, oa_fz, oa_chn, oa_slc, oa_ite, oa_call, oa_mut, oa_lst, oa_tup, oa_comp, or_nil, or_rf, or_v, or_c, or_g, or_pr, or_mv, or_and, or_or, or_not, or_fz, or_chn, or_slc, or_ite, or_call, or_mut, or_lst, or_tup, or_comp, reduceCtorEq, os_nil, os_cons, os_asg, os_unp, os_exs, os_aug, os_ife, os_ret, os_retN, os_rse, os_brk, os_cnt, os_pas, os_kil, os_asgP, os_fors, oi_rng1, oi_rng2, oi_v, IN_int, IN2_int, SL_int, OK_ok, OS_nx, OS_rt, OS_bk, OS_ct, SM_some, SM_if, SM_map, SM_bind, BR_bl, Cn.d, List.getElem?_cons_zero, List.getElem?_cons_succ, sl_z, sl_s, hoi, hos, hob, hon, hod, fzi, fzs, fzb, p_add, p_adds, p_sub, p_mul, p_fdiv, p_mod, p_pow, p_neg, p_lt, p_le, p_gt, p_ge, p_eqi, p_eqs, p_nei, p_nes, p_idx, p_lenS, p_lenL, p_lenT, p_lenC, p_abs, p_intb, idxL, idxC, idxT, idxS, Bool.not_false, Bool.not_true, true_and, and_true, decide_eq_true_eq, List.set_cons_zero, List.set_cons_succ, ok_fin, ok_finx, rf_nil, rf_rf, pb_nil, pb_rf, rf_c, pb_c, rf_g, pb_g, rf_pr, pb_pr, rf_mv, pb_mv, rf_and, pb_and, rf_or, pb_or, rf_not, pb_not, rf_fz, pb_fz, rf_chn, pb_chn, rf_slc, pb_slc, rf_ite, pb_ite, rf_call, pb_call, rf_mut, pb_mut, rf_lst, pb_lst, rf_tup, pb_tup, rf_comp, pb_comp, rf_v, pb_v, frz_nd, frz_i, frz_s, frz_b, frz_n, frzs_n, frzs_c, frzs_int, frzs_str]
  refine ok_comp (n := vows.length) (fun j => vD (vows.getD j (0, [], 0, []))) (fun j => some (.bl (keep1 row (vows.getD j (0, [], 0, []))))) (by unfold lim; omega) (by simp [tgIn, isHole]) ?_ ?_
  · simp only [ok_c, ok_g, ok_v, ok_mv, ok_pr, ok_fz, ok_and, ok_or, ok_not, NB_bl, ok_ite, ok_chn, ok_lst, ok_tup, ok_call, ok_mut, ok_slcv, oa_nil, oa_v, oa_c, oa_g, oa_pr, oa_mv, oa_and, oa_or, oa_not, oa_fz, oa_chn, oa_slc, oa_ite, oa_call, oa_mut, oa_lst, oa_tup, oa_comp, or_nil, or_rf, or_v, or_c, or_g, or_pr, or_mv, or_and, or_or, or_not, or_fz, or_chn, or_slc, or_ite, or_call, or_mut, or_lst, or_tup, or_comp, reduceCtorEq, os_nil, os_cons, os_asg, os_unp, os_exs, os_aug, os_ife, os_ret, os_retN, os_rse, os_brk, os_cnt, os_pas, os_kil, os_asgP, os_fors, oi_rng1, oi_rng2, oi_v, IN_int, IN2_int, SL_int, OK_ok, OS_nx, OS_rt, OS_bk, OS_ct, SM_some, SM_if, SM_map, SM_bind, BR_bl, Cn.d, List.getElem?_cons_zero, List.getElem?_cons_succ, sl_z, sl_s, hoi, hos, hob, hon, hod, fzi, fzs, fzb, p_add, p_adds, p_sub, p_mul, p_fdiv, p_mod, p_pow, p_neg, p_lt, p_le, p_gt, p_ge, p_eqi, p_eqs, p_nei, p_nes, p_idx, p_lenS, p_lenL, p_lenT, p_lenC, p_abs, p_intb, idxL, idxC, idxT, idxS, Bool.not_false, Bool.not_true, true_and, and_true, decide_eq_true_eq, List.set_cons_zero, List.set_cons_succ, ok_fin, ok_finx, rf_nil, rf_rf, pb_nil, pb_rf, rf_c, pb_c, rf_g, pb_g, rf_pr, pb_pr, rf_mv, pb_mv, rf_and, pb_and, rf_or, pb_or, rf_not, pb_not, rf_fz, pb_fz, rf_chn, pb_chn, rf_slc, pb_slc, rf_ite, pb_ite, rf_call, pb_call, rf_mut, pb_mut, rf_lst, pb_lst, rf_tup, pb_tup, rf_comp, pb_comp, rf_v, pb_v, frz_nd, frz_i, frz_s, frz_b, frz_n, frzs_n, frzs_c, frzs_int, frzs_str, seqSlot]
    refine ⟨fun j hj => by simp [itm, hj, kills], by simp [itm, kills], fun j hj => ?_⟩
    rw [sb_one]
    have eg : vows.getD j (0, [], 0, []) = vows[j] := by simp [hj]
    have hm := List.getElem_mem hj
    obtain ⟨v1, v2, v3, v4⟩ := hv _ hm
    refine ⟨rfl, rfl, by simp [kills], ?_⟩
    rw [eg]
    have w1 : vows[j].1 < row.length := by omega
    have w3 : vows[j].2.2.1 < row.length := by omega
    generalize vows[j] = v at *
    simp only [vD, evC, ok_c, ok_g, ok_v, ok_mv, ok_pr, ok_fz, ok_and, ok_or, ok_not, NB_bl, ok_ite, ok_chn, ok_lst, ok_tup, ok_call, ok_mut, ok_slcv, oa_nil, oa_v, oa_c, oa_g, oa_pr, oa_mv, oa_and, oa_or, oa_not, oa_fz, oa_chn, oa_slc, oa_ite, oa_call, oa_mut, oa_lst, oa_tup, oa_comp, or_nil, or_rf, or_v, or_c, or_g, or_pr, or_mv, or_and, or_or, or_not, or_fz, or_chn, or_slc, or_ite, or_call, or_mut, or_lst, or_tup, or_comp, reduceCtorEq, os_nil, os_cons, os_asg, os_unp, os_exs, os_aug, os_ife, os_ret, os_retN, os_rse, os_brk, os_cnt, os_pas, os_kil, os_asgP, os_fors, oi_rng1, oi_rng2, oi_v, IN_int, IN2_int, SL_int, OK_ok, OS_nx, OS_rt, OS_bk, OS_ct, SM_some, SM_if, SM_map, SM_bind, BR_bl, Cn.d, List.getElem?_cons_zero, List.getElem?_cons_succ, sl_z, sl_s, hoi, hos, hob, hon, hod, fzi, fzs, fzb, p_add, p_adds, p_sub, p_mul, p_fdiv, p_mod, p_pow, p_neg, p_lt, p_le, p_gt, p_ge, p_eqi, p_eqs, p_nei, p_nes, p_idx, p_lenS, p_lenL, p_lenT, p_lenC, p_abs, p_intb, idxL, idxC, idxT, idxS, Bool.not_false, Bool.not_true, true_and, and_true, decide_eq_true_eq, List.set_cons_zero, List.set_cons_succ, ok_fin, ok_finx, rf_nil, rf_rf, pb_nil, pb_rf, rf_c, pb_c, rf_g, pb_g, rf_pr, pb_pr, rf_mv, pb_mv, rf_and, pb_and, rf_or, pb_or, rf_not, pb_not, rf_fz, pb_fz, rf_chn, pb_chn, rf_slc, pb_slc, rf_ite, pb_ite, rf_call, pb_call, rf_mut, pb_mut, rf_lst, pb_lst, rf_tup, pb_tup, rf_comp, pb_comp, rf_v, pb_v, frz_nd, frz_i, frz_s, frz_b, frz_n, frzs_n, frzs_c, frzs_int, frzs_str, itFx, kills, List.foldl_cons, List.foldl_nil, at0, at1, at2, at3, fzi, fzs, if_true, reduceIte, atC w1, atC w3, hlim]
    by_cases c1 : [ch row v.1] = v.2.1
    · simp only [c1, keep1, decide_true, Bool.not_true, Bool.true_and, Bool.not_not, Bool.false_eq_true, if_false, if_true, reduceIte]
    · simp only [c1, keep1, decide_false, Bool.not_false, Bool.false_and, Bool.false_eq_true, if_false, if_true, reduceIte]
  · have e1 : (List.range vows.length).filterMap (fun j => some (D.bl (keep1 row (vows.getD j (0, [], 0, []))))) = (vows.map (keep1 row)).map .bl := by
      apply List.ext_getElem?
      intro i
      rw [show (fun j => some (D.bl (keep1 row (vows.getD j (0, [], 0, []))))) = (fun a => some ((fun j => D.bl (keep1 row (vows.getD j (0, [], 0, [])))) a)) from rfl, List.filterMap_eq_map']
      by_cases hi : i < vows.length
      · simp [hi]
      · simp [hi]
    rw [e1, p_all]
    simp [SM, isHole, d12, outE, List.all_map, Function.comp_def]
end
end Wap
set_option Elab.async false
set_option linter.all false
set_option maxRecDepth 100000
set_option maxHeartbeats 400000
/-! S11: lists of numbers, of texts, of oaths: slices, sums, copies. -/
namespace Wap
open PySem L2
/-! simp rules that leave less -/
theorem fzd {kd : Kd} {xs : List D} : fz (.nd kd false xs) = true := rfl
theorem fzn : fz .non = true := rfl
def nh : List D → Nat → Bool
  | [], k => decide (k ≤ lim)
  | d :: ds, k => !isHole d && nh ds (k + 1)
theorem nh_nil {k : Nat} : nh [] k = decide (k ≤ 16777216) := Eq.trans rfl rfl
theorem nh_cons {d : D} {ds : List D} {k : Nat} : nh (d :: ds) k = (!isHole d && nh ds (k + 1)) := Eq.trans rfl rfl
theorem nh_eq : ∀ (ds : List D) (k : Nat), nh ds k = (!ds.any isHole && decide (ds.length + k ≤ lim))
  | [], k => by simp [nh]
  | d :: ds, k => by
    simp only [nh, nh_eq ds, List.any_cons, List.length_cons, Bool.not_or, Bool.and_assoc]
    rw [show ds.length + (k + 1) = ds.length + 1 + k by omega]
theorem nh_iff (ds : List D) : (¬ (ds.any isHole || !(decide (ds.length ≤ lim))) = true) = (nh ds 0 = true) := by
  rw [nh_eq]
  simp
theorem ok_lst' {X : Nat → List D → Prop} {Q : D → List D → Prop} {G : Gam} {fx : List Nat} {env : List D} {es : List Xp} : OK X Q (ev G (.lst es) fx env) = OK X (fun ds e => nh ds 0 = true ∧ Q (.nd .lst true ds) e) (evR G es fx env) := by
  rw [ok_lst]
  simp only [nh_iff]
theorem ok_tup' {X : Nat → List D → Prop} {Q : D → List D → Prop} {G : Gam} {fx : List Nat} {env : List D} {es : List Xp} : OK X Q (ev G (.tup es) fx env) = OK X (fun ds e => nh ds 0 = true ∧ Q (.nd .tup (anyOwn ds) ds) e) (evR G es fx env) := by
  rw [ok_tup]
  simp only [nh_iff]
theorem ao_nil : anyOwn [] = false := rfl
theorem ao_cons {d : D} {ds : List D} : anyOwn (d :: ds) = (!fz d || anyOwn ds) := rfl
theorem ct_nil {i : Nat} : ([] : List Nat).contains i = false := rfl
theorem ct_cons {i j : Nat} {l : List Nat} : (j :: l).contains i = ((i == j) || l.contains i) := List.contains_cons
section
variable {G : Gam} {fx : List Nat} {env : List D} {q : Po} {X : Nat → List D → Prop} {Q : ItD → List D → Prop}
theorem oi_tup (l : List Xp) : OK X Q (evI G .seq [(.tup l)] fx env) = OK X (fun d e1 => SM (fun it => Q it e1) (seqOf d)) (ev G (.tup l) fx env) := oi_e rfl
theorem oi_lst (l : List Xp) : OK X Q (evI G .seq [(.lst l)] fx env) = OK X (fun d e1 => SM (fun it => Q it e1) (seqOf d)) (ev G (.lst l) fx env) := oi_e rfl
theorem oi_pr (p : Pr) (l : List Xp) : OK X Q (evI G .seq [(.pr p l)] fx env) = OK X (fun d e1 => SM (fun it => Q it e1) (seqOf d)) (ev G (.pr p l) fx env) := oi_e rfl
theorem oi_call (f : Nat) (l : List Xp) : OK X Q (evI G .seq [(.call f l)] fx env) = OK X (fun d e1 => SM (fun it => Q it e1) (seqOf d)) (ev G (.call f l) fx env) := oi_e rfl
theorem oi_slc (a b c : Xp) : OK X Q (evI G .seq [(.slc a b c)] fx env) = OK X (fun d e1 => SM (fun it => Q it e1) (seqOf d)) (ev G (.slc a b c) fx env) := oi_e rfl
theorem oi_fz (a : Xp) : OK X Q (evI G .seq [(.fz a)] fx env) = OK X (fun d e1 => SM (fun it => Q it e1) (seqOf d)) (ev G (.fz a) fx env) := oi_e rfl
theorem oi_ite (a b c : Xp) : OK X Q (evI G .seq [(.ite a b c)] fx env) = OK X (fun d e1 => SM (fun it => Q it e1) (seqOf d)) (ev G (.ite a b c) fx env) := oi_e rfl
theorem oi_comp (tg : Tg) (k : ItK) (a b : List Xp) (c : Xp) (vs : List Nat) : OK X Q (evI G .seq [(.comp tg k a b c vs)] fx env) = OK X (fun d e1 => SM (fun it => Q it e1) (seqOf d)) (ev G (.comp tg k a b c vs) fx env) := oi_e rfl
theorem oi_c (c : Cn) : OK X Q (evI G .seq [(.c c)] fx env) = OK X (fun d e1 => SM (fun it => Q it e1) (seqOf d)) (ev G (.c c) fx env) := oi_e rfl
theorem oi_g (x : Str) (c : Cn) : OK X Q (evI G .seq [(.g x c)] fx env) = OK X (fun d e1 => SM (fun it => Q it e1) (seqOf d)) (ev G (.g x c) fx env) := oi_e rfl
theorem sq_str {s : List Nat} : seqOf (.str s) = some (.fro (s.map fun c => .str [c])) := rfl
theorem sq_lst {o : Bool} {xs : List D} : seqOf (.nd .lst o xs) = if xs.all fz then some (.fro xs) else none := rfl
theorem sq_tup {xs : List D} : seqOf (.nd .tup false xs) = if xs.all fz then some (.fro xs) else none := rfl
theorem ss_str {i : Nat} {s : List Nat} : seqSlot i (.str s) = some (.fro (s.map fun c => .str [c])) := rfl
theorem ss_lst {i : Nat} {o : Bool} {xs : List D} : seqSlot i (.nd .lst o xs) = some (.slot i) := rfl
theorem ss_scr {i : Nat} {o : Bool} {xs : List D} : seqSlot i (.nd .scr o xs) = some (.slot i) := rfl
theorem ss_tup {i : Nat} {o : Bool} {xs : List D} : seqSlot i (.nd .tup o xs) = some (.slotT i) := rfl
theorem al_nil {f : D → Bool} : List.all [] f = true := rfl
theorem al_cons {f : D → Bool} {d : D} {ds : List D} : List.all (d :: ds) f = (f d && List.all ds f) := rfl
theorem ifx_rng {lo : Int} {n : Nat} : itFx (.rng lo n) fx = fx := rfl
theorem ifx_fro {xs : List D} : itFx (.fro xs) fx = fx := rfl
theorem ifx_slot {i : Nat} : itFx (.slot i) fx = i :: fx := rfl
theorem ifx_slotT {i : Nat} : itFx (.slotT i) fx = i :: fx := rfl
theorem isI_int {a : Int} : isI (.int a) = true := rfl
/-- a walk over things that stay -/
theorem loop_fro {turn : D → List D → Fl} {e0 : List D} {xs : List D} (I : List D → Prop) (hl : xs.length ≤ 1000000) (h0 : I e0) (hs : ∀ x ∈ xs, ∀ e, I e → OS { nx := I, ct := I, bk := q.nx, rt := q.rt, ex := q.ex } (turn x e)) (hd : ∀ e, I e → q.nx e) : OS q (loopL (itm (.fro xs)) turn fuel 0 e0) := by
  refine loop_rule (n := xs.length) (x := fun j => xs.getD j .hole) (fun _ e => I e) (by unfold fuel; omega) h0 (fun j e hj he => by simp [itm, hj]) (fun e he => by simp [itm]) (fun j e hj he => ?_) hd
  exact hs _ (by simp [hj]) e he
end
theorem cutL_map {α β : Type} (f : α → β) (l : List α) (lo hi : Option Int) : cutL (l.map f) lo hi = (cutL l lo hi).map f := by
  unfold cutL
  rw [List.length_map, List.map_take, List.map_drop]
theorem cutL_mem {α : Type} {l : List α} {lo hi : Option Int} {a : α} (h : a ∈ cutL l lo hi) : a ∈ l := List.mem_of_mem_drop (List.mem_of_mem_take h)
theorem cutL_len {α : Type} (l : List α) (lo hi : Option Int) : (cutL l lo hi).length ≤ l.length := by
  unfold cutL
  simp only [List.length_take, List.length_drop]
  omega
theorem fz_int (l : List Int) : (l.map D.int).all fz = true := by simp [fz]
theorem fz_str (l : List (List Nat)) : (l.map D.str).all fz = true := by simp [fz]
theorem fz_vow (l : List Vow) : (l.map vD).all fz = true := by simp [fz, vD]
theorem frz_vD (v : Vow) : frz (vD v) = vD v := by simp only [vD, frz_nd, frzs_c, frzs_n, frz_i, frz_s]
theorem frzs_vow (l : List Vow) : frzs (l.map vD) = l.map vD := by
  rw [frzs_eq, List.map_map]
  apply List.map_congr_left
  intro v _
  exact frz_vD v
theorem p_slBI {o : Bool} {j : Int} {l : List Int} : prim .slB [.nd .lst o (l.map .int), .int j] = some (.nd .lst true ((cutL l none (some j)).map .int)) := by
  show (if (l.map D.int).all fz = true then some (D.nd .lst true (cutL (l.map D.int) none (some j))) else none) = _
  rw [if_pos (fz_int l), cutL_map]
theorem p_slBC {o : Bool} {j : Int} {l : List Int} : prim .slB [.nd .scr o (l.map .int), .int j] = some (.nd .lst true ((cutL l none (some j)).map .int)) := by
  show (if (l.map D.int).all fz = true then some (D.nd .lst true (cutL (l.map D.int) none (some j))) else none) = _
  rw [if_pos (fz_int l), cutL_map]
theorem p_slAI {o : Bool} {j : Int} {l : List Int} : prim .slA [.nd .lst o (l.map .int), .int j] = some (.nd .lst true ((cutL l (some j) none).map .int)) := by
  show (if (l.map D.int).all fz = true then some (D.nd .lst true (cutL (l.map D.int) (some j) none)) else none) = _
  rw [if_pos (fz_int l), cutL_map]
theorem p_addI {o o' : Bool} {l m : List Int} (h : l.length + m.length ≤ lim) : prim .add [.nd .lst o (l.map .int), .nd .lst o' (m.map .int)] = some (.nd .lst true ((l ++ m).map .int)) := by
  show (if ((l.map D.int).all fz && (m.map D.int).all fz && decide ((l.map D.int).length + (m.map D.int).length ≤ lim)) = true then some (D.nd .lst true (l.map D.int ++ m.map D.int)) else none) = _
  rw [fz_int, fz_int, List.length_map, List.length_map, decide_eq_true h, List.map_append]
  rfl
theorem p_slcV {o : Bool} {i j : Int} {l : List Vow} : cutP (.nd .lst o (l.map vD)) (some i) (some j) = some (.nd .lst true ((cutL l (some i) (some j)).map vD)) := by
  show (if (l.map vD).all fz = true then some (D.nd .lst true (cutL (l.map vD) (some i) (some j))) else none) = _
  rw [if_pos (fz_vow l), cutL_map]
theorem p_listV {o : Bool} {l : List Vow} : prim .list [.nd .lst o (l.map vD)] = some (.nd .lst true (l.map vD)) := by
  show (if (l.map vD).all fz = true then some (D.nd .lst true (l.map vD)) else none) = _
  rw [if_pos (fz_vow l)]
theorem Pl_vow (l : List Vow) (o : Bool) (h : l.length ≤ 10000) : Pl 2 (.nd .lst o (l.map vD)) = true := by
  simp only [Pl, List.length_map, h, decide_true, Bool.true_and, List.all_map, List.all_eq_true]
  intro v _
  simp [vD, fz, Pl]
def ch' (rows : List (List Nat)) (j : Nat) : List Nat := rows.getD j []
section
variable {P : Nat → Option Dfn} {k : Nat}
theorem law24 (h0 : P 0 = some d0) (h1 : P 1 = some d1) (h2 : P 2 = some d2) (h3 : P 3 = some d3) (h4 : P 4 = some d4) (h5 : P 5 = some d5) (h6 : P 6 = some d6) (h7 : P 7 = some d7) (h8 : P 8 = some d8) (h9 : P 9 = some d9) (h10 : P 10 = some d10) (h11 : P 11 = some d11) (h12 : P 12 = some d12) (h13 : P 13 = some d13) (ns : List Int) (h : ns.length ≤ 63) :
    ∃ outs, (gam P 7).run 13 [.nd .scr false (ns.map .int)] = .ok (.bl true) outs := by
  rw [run_eq h13 rfl (by decide) (by decide)]
  suffices h : ∃ d outs, flOut d13.fx d13.np (execs (gam P 6) d13.body d13.fx (startE d13.ns [.nd .scr false (ns.map .int)])) = .ok d outs ∧ d = .bl true by
    obtain ⟨d, outs, h1, rfl⟩ := h
    exact ⟨outs, h1⟩
  refine fl_ex ?_
  show OS _ (execs (gam P 6) [_, _, _, _, _, _] [] [_, .hole, .hole, .hole, .hole, .hole, .hole, .hole, .hole, .hole])
  have hm := cutL_len ns none (some 63)
  refine os_seq (fun e => e = [.nd .lst false ((cutL ns none (some 63)).map .int), .hole, .hole, .hole, .hole, .hole, .hole, .hole, .hole, .hole]) ?_ fun e he => ?_
  · simp only [ok_c, ok_g, ok_v, ok_mv, ok_pr, ok_fz, ok_and, ok_or, ok_not, NB_bl, ok_ite, ok_chn, ok_lst', ok_tup', ok_call, ok_mut, ok_slcv, oa_nil, oa_v, oa_c, oa_g, oa_pr, oa_mv, oa_and, oa_or, oa_not, oa_fz, oa_chn, oa_slc, oa_ite, oa_call, oa_mut, oa_lst, oa_tup, oa_comp, or_nil, or_rf, or_v, or_c, or_g, or_pr, or_mv, or_and, or_or, or_not, or_fz, or_chn, or_slc, or_ite, or_call, or_mut, or_lst, or_tup, or_comp, reduceCtorEq, os_nil, os_cons, os_asg, os_unp, os_exs, os_aug, os_ife, os_ret, os_retN, os_rse, os_brk, os_cnt, os_pas, os_kil, os_asgP, os_fors, oi_rng1, oi_rng2, oi_v, IN_int, IN2_int, SL_int, OK_ok, OS_nx, OS_rt, OS_bk, OS_ct, SM_some, SM_if, SM_map, SM_bind, BR_bl, Cn.d, List.getElem?_cons_zero, List.getElem?_cons_succ, sl_z, sl_s, hoi, hos, hob, hon, hod, fzi, fzs, fzb, p_add, p_adds, p_sub, p_mul, p_fdiv, p_mod, p_pow, p_neg, p_lt, p_le, p_gt, p_ge, p_eqi, p_eqs, p_nei, p_nes, p_idx, p_lenS, p_lenL, p_lenT, p_lenC, p_abs, p_intb, idxL, idxC, idxT, idxS, Bool.not_false, Bool.not_true, true_and, and_true, decide_eq_true_eq, List.set_cons_zero, List.set_cons_succ, ok_fin, ok_finx, rf_nil, rf_rf, pb_nil, pb_rf, rf_c, pb_c, rf_g, pb_g, rf_pr, pb_pr, rf_mv, pb_mv, rf_and, pb_and, rf_or, pb_or, rf_not, pb_not, rf_fz, pb_fz, rf_chn, pb_chn, rf_slc, pb_slc, rf_ite, pb_ite, rf_call, pb_call, rf_mut, pb_mut, rf_lst, pb_lst, rf_tup, pb_tup, rf_comp, pb_comp, rf_v, pb_v, frz_nd, frz_i, frz_s, frz_b, frz_n, frzs_n, frzs_c, frzs_int, frzs_str, fzd, fzn, nh_nil, nh_cons, ao_nil, ao_cons, ct_nil, ct_cons, List.length_cons, List.length_nil, Nat.reduceAdd, Nat.reduceLeDiff, Nat.reduceBEq, Bool.and_self, Bool.true_and, Bool.and_true, Bool.false_or, Bool.or_false, Bool.or_self, decide_true, decide_false, if_true, if_false, reduceIte, Bool.false_eq_true, at0, at1, at2, at3, Nat.zero_add, Nat.reduceLT, Nat.reduceSub, not_true_eq_false, not_false_eq_true, oi_tup, oi_lst, oi_pr, oi_call, oi_slc, oi_fz, oi_ite, oi_comp, oi_c, oi_g, sq_str, sq_lst, sq_tup, ss_str, ss_lst, ss_scr, ss_tup, al_nil, al_cons, ifx_rng, ifx_fro, ifx_slot, ifx_slotT, isI_int, ne_eq, Int.reduceEq, Int.reduceNeg, Int.reduceLT, Int.reduceLE, p_slBC]
  subst he
  generalize cutL ns none (some 63) = ms at *
  have hc0 : (gam P 6).run 1 [.nd .lst false (ms.map .int), .int 0] = .ok (.int (ms.getD 0 0)) [.nd .lst false (ms.map .int), .int 0] := cell_ok h1 false ms 0
  have hc1 : (gam P 6).run 1 [.nd .lst false (ms.map .int), .int 1] = .ok (.int (ms.getD 1 0)) [.nd .lst false (ms.map .int), .int 1] := cell_ok h1 false ms 1
  obtain ⟨n, n1, n12, hn⟩ := count_ok (k := 4) h2 h4 (ms.getD 0 0)
  have hm2 := cutL_len ms (some 2) none
  refine os_seq (fun e => e = [.nd .lst false (ms.map .int), .int n, .hole, .hole, .hole, .hole, .hole, .hole, .hole, .hole]) ?_ fun e he => ?_
  · simp only [ok_c, ok_g, ok_v, ok_mv, ok_pr, ok_fz, ok_and, ok_or, ok_not, NB_bl, ok_ite, ok_chn, ok_lst', ok_tup', ok_call, ok_mut, ok_slcv, oa_nil, oa_v, oa_c, oa_g, oa_pr, oa_mv, oa_and, oa_or, oa_not, oa_fz, oa_chn, oa_slc, oa_ite, oa_call, oa_mut, oa_lst, oa_tup, oa_comp, or_nil, or_rf, or_v, or_c, or_g, or_pr, or_mv, or_and, or_or, or_not, or_fz, or_chn, or_slc, or_ite, or_call, or_mut, or_lst, or_tup, or_comp, reduceCtorEq, os_nil, os_cons, os_asg, os_unp, os_exs, os_aug, os_ife, os_ret, os_retN, os_rse, os_brk, os_cnt, os_pas, os_kil, os_asgP, os_fors, oi_rng1, oi_rng2, oi_v, IN_int, IN2_int, SL_int, OK_ok, OS_nx, OS_rt, OS_bk, OS_ct, SM_some, SM_if, SM_map, SM_bind, BR_bl, Cn.d, List.getElem?_cons_zero, List.getElem?_cons_succ, sl_z, sl_s, hoi, hos, hob, hon, hod, fzi, fzs, fzb, p_add, p_adds, p_sub, p_mul, p_fdiv, p_mod, p_pow, p_neg, p_lt, p_le, p_gt, p_ge, p_eqi, p_eqs, p_nei, p_nes, p_idx, p_lenS, p_lenL, p_lenT, p_lenC, p_abs, p_intb, idxL, idxC, idxT, idxS, Bool.not_false, Bool.not_true, true_and, and_true, decide_eq_true_eq, List.set_cons_zero, List.set_cons_succ, ok_fin, ok_finx, rf_nil, rf_rf, pb_nil, pb_rf, rf_c, pb_c, rf_g, pb_g, rf_pr, pb_pr, rf_mv, pb_mv, rf_and, pb_and, rf_or, pb_or, rf_not, pb_not, rf_fz, pb_fz, rf_chn, pb_chn, rf_slc, pb_slc, rf_ite, pb_ite, rf_call, pb_call, rf_mut, pb_mut, rf_lst, pb_lst, rf_tup, pb_tup, rf_comp, pb_comp, rf_v, pb_v, frz_nd, frz_i, frz_s, frz_b, frz_n, frzs_n, frzs_c, frzs_int, frzs_str, fzd, fzn, nh_nil, nh_cons, ao_nil, ao_cons, ct_nil, ct_cons, List.length_cons, List.length_nil, Nat.reduceAdd, Nat.reduceLeDiff, Nat.reduceBEq, Bool.and_self, Bool.true_and, Bool.and_true, Bool.false_or, Bool.or_false, Bool.or_self, decide_true, decide_false, if_true, if_false, reduceIte, Bool.false_eq_true, at0, at1, at2, at3, Nat.zero_add, Nat.reduceLT, Nat.reduceSub, not_true_eq_false, not_false_eq_true, oi_tup, oi_lst, oi_pr, oi_call, oi_slc, oi_fz, oi_ite, oi_comp, oi_c, oi_g, sq_str, sq_lst, sq_tup, ss_str, ss_lst, ss_scr, ss_tup, al_nil, al_cons, ifx_rng, ifx_fro, ifx_slot, ifx_slotT, isI_int, ne_eq, Int.reduceEq, Int.reduceNeg, Int.reduceLT, Int.reduceLE, hc0, hn]
  subst he
  obtain ⟨rows, hrows, lrows, yrows⟩ := rows_ok (k := 3) h2 h5 h6 h7 h8 h9 h10 (cutL ms (some 2) none ++ [4, 6]) (ms.getD 1 0) n n1 (by omega) (by simp; omega)
  refine os_seq (fun e => e = [.nd .lst false (ms.map .int), .int n, .nd .lst false (rows.map .str), .hole, .hole, .hole, .hole, .hole, .hole, .hole]) ?_ fun e he => ?_
  · simp only [ok_c, ok_g, ok_v, ok_mv, ok_pr, ok_fz, ok_and, ok_or, ok_not, NB_bl, ok_ite, ok_chn, ok_lst', ok_tup', ok_call, ok_mut, ok_slcv, oa_nil, oa_v, oa_c, oa_g, oa_pr, oa_mv, oa_and, oa_or, oa_not, oa_fz, oa_chn, oa_slc, oa_ite, oa_call, oa_mut, oa_lst, oa_tup, oa_comp, or_nil, or_rf, or_v, or_c, or_g, or_pr, or_mv, or_and, or_or, or_not, or_fz, or_chn, or_slc, or_ite, or_call, or_mut, or_lst, or_tup, or_comp, reduceCtorEq, os_nil, os_cons, os_asg, os_unp, os_exs, os_aug, os_ife, os_ret, os_retN, os_rse, os_brk, os_cnt, os_pas, os_kil, os_asgP, os_fors, oi_rng1, oi_rng2, oi_v, IN_int, IN2_int, SL_int, OK_ok, OS_nx, OS_rt, OS_bk, OS_ct, SM_some, SM_if, SM_map, SM_bind, BR_bl, Cn.d, List.getElem?_cons_zero, List.getElem?_cons_succ, sl_z, sl_s, hoi, hos, hob, hon, hod, fzi, fzs, fzb, p_add, p_adds, p_sub, p_mul, p_fdiv, p_mod, p_pow, p_neg, p_lt, p_le, p_gt, p_ge, p_eqi, p_eqs, p_nei, p_nes, p_idx, p_lenS, p_lenL, p_lenT, p_lenC, p_abs, p_intb, idxL, idxC, idxT, idxS, Bool.not_false, Bool.not_true, true_and, and_true, decide_eq_true_eq, List.set_cons_zero, List.set_cons_succ, ok_fin, ok_finx, rf_nil, rf_rf, pb_nil, pb_rf, rf_c, pb_c, rf_g, pb_g, rf_pr, pb_pr, rf_mv, pb_mv, rf_and, pb_and, rf_or, pb_or, rf_not, pb_not, rf_fz, pb_fz, rf_chn, pb_chn, rf_slc, pb_slc, rf_ite, pb_ite, rf_call, pb_call, rf_mut, pb_mut, rf_lst, pb_lst, rf_tup, pb_tup, rf_comp, pb_comp, rf_v, pb_v, frz_nd, frz_i, frz_s, frz_b, frz_n, frzs_n, frzs_c, frzs_int, frzs_str, fzd, fzn, nh_nil, nh_cons, ao_nil, ao_cons, ct_nil, ct_cons, List.length_cons, List.length_nil, Nat.reduceAdd, Nat.reduceLeDiff, Nat.reduceBEq, Bool.and_self, Bool.true_and, Bool.and_true, Bool.false_or, Bool.or_false, Bool.or_self, decide_true, decide_false, if_true, if_false, reduceIte, Bool.false_eq_true, at0, at1, at2, at3, Nat.zero_add, Nat.reduceLT, Nat.reduceSub, not_true_eq_false, not_false_eq_true, oi_tup, oi_lst, oi_pr, oi_call, oi_slc, oi_fz, oi_ite, oi_comp, oi_c, oi_g, sq_str, sq_lst, sq_tup, ss_str, ss_lst, ss_scr, ss_tup, al_nil, al_cons, ifx_rng, ifx_fro, ifx_slot, ifx_slotT, isI_int, ne_eq, Int.reduceEq, Int.reduceNeg, Int.reduceLT, Int.reduceLE, p_slAI]
    rw [show [D.int 4, .int 6] = List.map D.int [4, 6] from rfl, p_addI (by simp [lim]; omega)]
    simp only [ok_c, ok_g, ok_v, ok_mv, ok_pr, ok_fz, ok_and, ok_or, ok_not, NB_bl, ok_ite, ok_chn, ok_lst', ok_tup', ok_call, ok_mut, ok_slcv, oa_nil, oa_v, oa_c, oa_g, oa_pr, oa_mv, oa_and, oa_or, oa_not, oa_fz, oa_chn, oa_slc, oa_ite, oa_call, oa_mut, oa_lst, oa_tup, oa_comp, or_nil, or_rf, or_v, or_c, or_g, or_pr, or_mv, or_and, or_or, or_not, or_fz, or_chn, or_slc, or_ite, or_call, or_mut, or_lst, or_tup, or_comp, reduceCtorEq, os_nil, os_cons, os_asg, os_unp, os_exs, os_aug, os_ife, os_ret, os_retN, os_rse, os_brk, os_cnt, os_pas, os_kil, os_asgP, os_fors, oi_rng1, oi_rng2, oi_v, IN_int, IN2_int, SL_int, OK_ok, OS_nx, OS_rt, OS_bk, OS_ct, SM_some, SM_if, SM_map, SM_bind, BR_bl, Cn.d, List.getElem?_cons_zero, List.getElem?_cons_succ, sl_z, sl_s, hoi, hos, hob, hon, hod, fzi, fzs, fzb, p_add, p_adds, p_sub, p_mul, p_fdiv, p_mod, p_pow, p_neg, p_lt, p_le, p_gt, p_ge, p_eqi, p_eqs, p_nei, p_nes, p_idx, p_lenS, p_lenL, p_lenT, p_lenC, p_abs, p_intb, idxL, idxC, idxT, idxS, Bool.not_false, Bool.not_true, true_and, and_true, decide_eq_true_eq, List.set_cons_zero, List.set_cons_succ, ok_fin, ok_finx, rf_nil, rf_rf, pb_nil, pb_rf, rf_c, pb_c, rf_g, pb_g, rf_pr, pb_pr, rf_mv, pb_mv, rf_and, pb_and, rf_or, pb_or, rf_not, pb_not, rf_fz, pb_fz, rf_chn, pb_chn, rf_slc, pb_slc, rf_ite, pb_ite, rf_call, pb_call, rf_mut, pb_mut, rf_lst, pb_lst, rf_tup, pb_tup, rf_comp, pb_comp, rf_v, pb_v, frz_nd, frz_i, frz_s, frz_b, frz_n, frzs_n, frzs_c, frzs_int, frzs_str, fzd, fzn, nh_nil, nh_cons, ao_nil, ao_cons, ct_nil, ct_cons, List.length_cons, List.length_nil, Nat.reduceAdd, Nat.reduceLeDiff, Nat.reduceBEq, Bool.and_self, Bool.true_and, Bool.and_true, Bool.false_or, Bool.or_false, Bool.or_self, decide_true, decide_false, if_true, if_false, reduceIte, Bool.false_eq_true, at0, at1, at2, at3, Nat.zero_add, Nat.reduceLT, Nat.reduceSub, not_true_eq_false, not_false_eq_true, oi_tup, oi_lst, oi_pr, oi_call, oi_slc, oi_fz, oi_ite, oi_comp, oi_c, oi_g, sq_str, sq_lst, sq_tup, ss_str, ss_lst, ss_scr, ss_tup, al_nil, al_cons, ifx_rng, ifx_fro, ifx_slot, ifx_slotT, isI_int, ne_eq, Int.reduceEq, Int.reduceNeg, Int.reduceLT, Int.reduceLE, hc1, hrows]
  subst he
  obtain ⟨vows, hvows, lvows, yvows⟩ := vows_ok (k := 4) h2 h7 h11 (cutL ms (some 2) none ++ [3, 8, 9]) (ms.getD 1 0 + 1) n n1 (by omega) (by simp; omega)
  refine os_seq (fun e => e = [.nd .lst false (ms.map .int), .int n, .nd .lst false (rows.map .str), .nd .lst false (vows.map vD), .hole, .hole, .hole, .hole, .hole, .hole]) ?_ fun e he => ?_
  · simp only [ok_c, ok_g, ok_v, ok_mv, ok_pr, ok_fz, ok_and, ok_or, ok_not, NB_bl, ok_ite, ok_chn, ok_lst', ok_tup', ok_call, ok_mut, ok_slcv, oa_nil, oa_v, oa_c, oa_g, oa_pr, oa_mv, oa_and, oa_or, oa_not, oa_fz, oa_chn, oa_slc, oa_ite, oa_call, oa_mut, oa_lst, oa_tup, oa_comp, or_nil, or_rf, or_v, or_c, or_g, or_pr, or_mv, or_and, or_or, or_not, or_fz, or_chn, or_slc, or_ite, or_call, or_mut, or_lst, or_tup, or_comp, reduceCtorEq, os_nil, os_cons, os_asg, os_unp, os_exs, os_aug, os_ife, os_ret, os_retN, os_rse, os_brk, os_cnt, os_pas, os_kil, os_asgP, os_fors, oi_rng1, oi_rng2, oi_v, IN_int, IN2_int, SL_int, OK_ok, OS_nx, OS_rt, OS_bk, OS_ct, SM_some, SM_if, SM_map, SM_bind, BR_bl, Cn.d, List.getElem?_cons_zero, List.getElem?_cons_succ, sl_z, sl_s, hoi, hos, hob, hon, hod, fzi, fzs, fzb, p_add, p_adds, p_sub, p_mul, p_fdiv, p_mod, p_pow, p_neg, p_lt, p_le, p_gt, p_ge, p_eqi, p_eqs, p_nei, p_nes, p_idx, p_lenS, p_lenL, p_lenT, p_lenC, p_abs, p_intb, idxL, idxC, idxT, idxS, Bool.not_false, Bool.not_true, true_and, and_true, decide_eq_true_eq, List.set_cons_zero, List.set_cons_succ, ok_fin, ok_finx, rf_nil, rf_rf, pb_nil, pb_rf, rf_c, pb_c, rf_g, pb_g, rf_pr, pb_pr, rf_mv, pb_mv, rf_and, pb_and, rf_or, pb_or, rf_not, pb_not, rf_fz, pb_fz, rf_chn, pb_chn, rf_slc, pb_slc, rf_ite, pb_ite, rf_call, pb_call, rf_mut, pb_mut, rf_lst, pb_lst, rf_tup, pb_tup, rf_comp, pb_comp, rf_v, pb_v, frz_nd, frz_i, frz_s, frz_b, frz_n, frzs_n, frzs_c, frzs_int, frzs_str, fzd, fzn, nh_nil, nh_cons, ao_nil, ao_cons, ct_nil, ct_cons, List.length_cons, List.length_nil, Nat.reduceAdd, Nat.reduceLeDiff, Nat.reduceBEq, Bool.and_self, Bool.true_and, Bool.and_true, Bool.false_or, Bool.or_false, Bool.or_self, decide_true, decide_false, if_true, if_false, reduceIte, Bool.false_eq_true, at0, at1, at2, at3, Nat.zero_add, Nat.reduceLT, Nat.reduceSub, not_true_eq_false, not_false_eq_true, oi_tup, oi_lst, oi_pr, oi_call, oi_slc, oi_fz, oi_ite, oi_comp, oi_c, oi_g, sq_str, sq_lst, sq_tup, ss_str, ss_lst, ss_scr, ss_tup, al_nil, al_cons, ifx_rng, ifx_fro, ifx_slot, ifx_slotT, isI_int, ne_eq, Int.reduceEq, Int.reduceNeg, Int.reduceLT, Int.reduceLE, p_slAI]
    rw [show [D.int 3, .int 8, .int 9] = List.map D.int [3, 8, 9] from rfl, p_addI (by simp [lim]; omega)]
    simp only [ok_c, ok_g, ok_v, ok_mv, ok_pr, ok_fz, ok_and, ok_or, ok_not, NB_bl, ok_ite, ok_chn, ok_lst', ok_tup', ok_call, ok_mut, ok_slcv, oa_nil, oa_v, oa_c, oa_g, oa_pr, oa_mv, oa_and, oa_or, oa_not, oa_fz, oa_chn, oa_slc, oa_ite, oa_call, oa_mut, oa_lst, oa_tup, oa_comp, or_nil, or_rf, or_v, or_c, or_g, or_pr, or_mv, or_and, or_or, or_not, or_fz, or_chn, or_slc, or_ite, or_call, or_mut, or_lst, or_tup, or_comp, reduceCtorEq, os_nil, os_cons, os_asg, os_unp, os_exs, os_aug, os_ife, os_ret, os_retN, os_rse, os_brk, os_cnt, os_pas, os_kil, os_asgP, os_fors, oi_rng1, oi_rng2, oi_v, IN_int, IN2_int, SL_int, OK_ok, OS_nx, OS_rt, OS_bk, OS_ct, SM_some, SM_if, SM_map, SM_bind, BR_bl, Cn.d, List.getElem?_cons_zero, List.getElem?_cons_succ, sl_z, sl_s, hoi, hos, hob, hon, hod, fzi, fzs, fzb, p_add, p_adds, p_sub, p_mul, p_fdiv, p_mod, p_pow, p_neg, p_lt, p_le, p_gt, p_ge, p_eqi, p_eqs, p_nei, p_nes, p_idx, p_lenS, p_lenL, p_lenT, p_lenC, p_abs, p_intb, idxL, idxC, idxT, idxS, Bool.not_false, Bool.not_true, true_and, and_true, decide_eq_true_eq, List.set_cons_zero, List.set_cons_succ, ok_fin, ok_finx, rf_nil, rf_rf, pb_nil, pb_rf, rf_c, pb_c, rf_g, pb_g, rf_pr, pb_pr, rf_mv, pb_mv, rf_and, pb_and, rf_or, pb_or, rf_not, pb_not, rf_fz, pb_fz, rf_chn, pb_chn, rf_slc, pb_slc, rf_ite, pb_ite, rf_call, pb_call, rf_mut, pb_mut, rf_lst, pb_lst, rf_tup, pb_tup, rf_comp, pb_comp, rf_v, pb_v, frz_nd, frz_i, frz_s, frz_b, frz_n, frzs_n, frzs_c, frzs_int, frzs_str, fzd, fzn, nh_nil, nh_cons, ao_nil, ao_cons, ct_nil, ct_cons, List.length_cons, List.length_nil, Nat.reduceAdd, Nat.reduceLeDiff, Nat.reduceBEq, Bool.and_self, Bool.true_and, Bool.and_true, Bool.false_or, Bool.or_false, Bool.or_self, decide_true, decide_false, if_true, if_false, reduceIte, Bool.false_eq_true, at0, at1, at2, at3, Nat.zero_add, Nat.reduceLT, Nat.reduceSub, not_true_eq_false, not_false_eq_true, oi_tup, oi_lst, oi_pr, oi_call, oi_slc, oi_fz, oi_ite, oi_comp, oi_c, oi_g, sq_str, sq_lst, sq_tup, ss_str, ss_lst, ss_scr, ss_tup, al_nil, al_cons, ifx_rng, ifx_fro, ifx_slot, ifx_slotT, isI_int, ne_eq, Int.reduceEq, Int.reduceNeg, Int.reduceLT, Int.reduceLE, hc1, hvows, frzs_vow]
  subst he
  have lr : rows.length ≤ 65 ∧ 0 < rows.length := by simp at lrows; omega
  have lv : vows.length ≤ 66 ∧ 0 < vows.length := by simp at lvows; omega
  refine os_seq (fun e => ∃ x4 x5 x6 x7 x8 x9, e = [.nd .lst false (ms.map .int), .int n, .nd .lst false (rows.map .str), .nd .lst false (vows.map vD), x4, x5, x6, x7, x8, x9]) ?_ fun e he => ?_
  rotate_left
  · obtain ⟨x4, x5, x6, x7, x8, x9, rfl⟩ := he
    simp only [ok_c, ok_g, ok_v, ok_mv, ok_pr, ok_fz, ok_and, ok_or, ok_not, NB_bl, ok_ite, ok_chn, ok_lst', ok_tup', ok_call, ok_mut, ok_slcv, oa_nil, oa_v, oa_c, oa_g, oa_pr, oa_mv, oa_and, oa_or, oa_not, oa_fz, oa_chn, oa_slc, oa_ite, oa_call, oa_mut, oa_lst, oa_tup, oa_comp, or_nil, or_rf, or_v, or_c, or_g, or_pr, or_mv, or_and, or_or, or_not, or_fz, or_chn, or_slc, or_ite, or_call, or_mut, or_lst, or_tup, or_comp, reduceCtorEq, os_nil, os_cons, os_asg, os_unp, os_exs, os_aug, os_ife, os_ret, os_retN, os_rse, os_brk, os_cnt, os_pas, os_kil, os_asgP, os_fors, oi_rng1, oi_rng2, oi_v, IN_int, IN2_int, SL_int, OK_ok, OS_nx, OS_rt, OS_bk, OS_ct, SM_some, SM_if, SM_map, SM_bind, BR_bl, Cn.d, List.getElem?_cons_zero, List.getElem?_cons_succ, sl_z, sl_s, hoi, hos, hob, hon, hod, fzi, fzs, fzb, p_add, p_adds, p_sub, p_mul, p_fdiv, p_mod, p_pow, p_neg, p_lt, p_le, p_gt, p_ge, p_eqi, p_eqs, p_nei, p_nes, p_idx, p_lenS, p_lenL, p_lenT, p_lenC, p_abs, p_intb, idxL, idxC, idxT, idxS, Bool.not_false, Bool.not_true, true_and, and_true, decide_eq_true_eq, List.set_cons_zero, List.set_cons_succ, ok_fin, ok_finx, rf_nil, rf_rf, pb_nil, pb_rf, rf_c, pb_c, rf_g, pb_g, rf_pr, pb_pr, rf_mv, pb_mv, rf_and, pb_and, rf_or, pb_or, rf_not, pb_not, rf_fz, pb_fz, rf_chn, pb_chn, rf_slc, pb_slc, rf_ite, pb_ite, rf_call, pb_call, rf_mut, pb_mut, rf_lst, pb_lst, rf_tup, pb_tup, rf_comp, pb_comp, rf_v, pb_v, frz_nd, frz_i, frz_s, frz_b, frz_n, frzs_n, frzs_c, frzs_int, frzs_str, fzd, fzn, nh_nil, nh_cons, ao_nil, ao_cons, ct_nil, ct_cons, List.length_cons, List.length_nil, Nat.reduceAdd, Nat.reduceLeDiff, Nat.reduceBEq, Bool.and_self, Bool.true_and, Bool.and_true, Bool.false_or, Bool.or_false, Bool.or_self, decide_true, decide_false, if_true, if_false, reduceIte, Bool.false_eq_true, at0, at1, at2, at3, Nat.zero_add, Nat.reduceLT, Nat.reduceSub, not_true_eq_false, not_false_eq_true, oi_tup, oi_lst, oi_pr, oi_call, oi_slc, oi_fz, oi_ite, oi_comp, oi_c, oi_g, sq_str, sq_lst, sq_tup, ss_str, ss_lst, ss_scr, ss_tup, al_nil, al_cons, ifx_rng, ifx_fro, ifx_slot, ifx_slotT, isI_int, ne_eq, Int.reduceEq, Int.reduceNeg, Int.reduceLT, Int.reduceLE]
    simp [d13]
  simp only [ok_c, ok_g, ok_v, ok_mv, ok_pr, ok_fz, ok_and, ok_or, ok_not, NB_bl, ok_ite, ok_chn, ok_lst', ok_tup', ok_call, ok_mut, ok_slcv, oa_nil, oa_v, oa_c, oa_g, oa_pr, oa_mv, oa_and, oa_or, oa_not, oa_fz, oa_chn, oa_slc, oa_ite, oa_call, oa_mut, oa_lst, oa_tup, oa_comp, or_nil, or_rf, or_v, or_c, or_g, or_pr, or_mv, or_and, or_or, or_not, or_fz, or_chn, or_slc, or_ite, or_call, or_mut, or_lst, or_tup, or_comp, reduceCtorEq, os_nil, os_cons, os_asg, os_unp, os_exs, os_aug, os_ife, os_ret, os_retN, os_rse, os_brk, os_cnt, os_pas, os_kil, os_asgP, os_fors, oi_rng1, oi_rng2, oi_v, IN_int, IN2_int, SL_int, OK_ok, OS_nx, OS_rt, OS_bk, OS_ct, SM_some, SM_if, SM_map, SM_bind, BR_bl, Cn.d, List.getElem?_cons_zero, List.getElem?_cons_succ, sl_z, sl_s, hoi, hos, hob, hon, hod, fzi, fzs, fzb, p_add, p_adds, p_sub, p_mul, p_fdiv, p_mod, p_pow, p_neg, p_lt, p_le, p_gt, p_ge, p_eqi, p_eqs, p_nei, p_nes, p_idx, p_lenS, p_lenL, p_lenT, p_lenC, p_abs, p_intb, idxL, idxC, idxT, idxS, Bool.not_false, Bool.not_true, true_and, and_true, decide_eq_true_eq, List.set_cons_zero, List.set_cons_succ, ok_fin, ok_finx, rf_nil, rf_rf, pb_nil, pb_rf, rf_c, pb_c, rf_g, pb_g, rf_pr, pb_pr, rf_mv, pb_mv, rf_and, pb_and, rf_or, pb_or, rf_not, pb_not, rf_fz, pb_fz, rf_chn, pb_chn, rf_slc, pb_slc, rf_ite, pb_ite, rf_call, pb_call, rf_mut, pb_mut, rf_lst, pb_lst, rf_tup, pb_tup, rf_comp, pb_comp, rf_v, pb_v, frz_nd, frz_i, frz_s, frz_b, frz_n, frzs_n, frzs_c, frzs_int, frzs_str, fzd, fzn, nh_nil, nh_cons, ao_nil, ao_cons, ct_nil, ct_cons, List.length_cons, List.length_nil, Nat.reduceAdd, Nat.reduceLeDiff, Nat.reduceBEq, Bool.and_self, Bool.true_and, Bool.and_true, Bool.false_or, Bool.or_false, Bool.or_self, decide_true, decide_false, if_true, if_false, reduceIte, Bool.false_eq_true, at0, at1, at2, at3, Nat.zero_add, Nat.reduceLT, Nat.reduceSub, not_true_eq_false, not_false_eq_true, oi_tup, oi_lst, oi_pr, oi_call, oi_slc, oi_fz, oi_ite, oi_comp, oi_c, oi_g, sq_str, sq_lst, sq_tup, ss_str, ss_lst, ss_scr, ss_tup, al_nil, al_cons, ifx_rng, ifx_fro, ifx_slot, ifx_slotT, isI_int, ne_eq, Int.reduceEq, Int.reduceNeg, Int.reduceLT, Int.reduceLE, List.length_map]
  refine ⟨by simp [small]; omega, ?_⟩
  refine loop_rule (n := rows.length) (x := fun j => .int j) (fun j e => ∃ x4 x5 x6 x7 x8 x9, e = [.nd .lst false (ms.map .int), .int n, .nd .lst false (rows.map .str), .nd .lst false (vows.map vD), x4, x5, x6, x7, x8, x9]) (by unfold fuel; omega) ⟨_, _, _, _, _, _, rfl⟩ (fun j e hj he => ?_) (fun e he => ?_) (fun j e hj he => ?_) (fun e he => ?_)
  · simp [itm, hj]
  · simp [itm]
  rotate_left
  · exact he
  obtain ⟨x4, x5, x6, x7, x8, x9, rfl⟩ := he
  rw [os_turn, sb_one]
  refine ⟨rfl, rfl, by simp, ?_⟩
  show OS _ (execs (gam P 6) [_, _, _, _, _] [] [_, _, _, _, _, _, _, _, _, _])
  have hcj : (gam P 6).run 1 [.nd .lst false (ms.map .int), .int (2 + (j : Int))] = .ok (.int (ms.getD (2 + j) 0)) [.nd .lst false (ms.map .int), .int (2 + (j : Int))] := cell_ok h1 false ms (2 + j)
  have hd := draws_ok (k := 5) h2 false (ms.getD (2 + j) 0 + 9) [67, 67, 5] (by decide) (by decide)
  obtain ⟨t0, t1, t2, et⟩ : ∃ t0 t1 t2 : Int, (draws (ms.getD (2 + j) 0 + 9) [67, 67, 5]).map D.int = [.int t0, .int t1, .int t2] := ⟨_, _, _, rfl⟩
  rw [et] at hd
  refine os_seq (fun e => e = [.nd .lst false (ms.map .int), .int n, .nd .lst false (rows.map .str), .nd .lst false (vows.map vD), .int j, .nd .lst false [.int t0, .int t1, .int t2], x6, x7, x8, x9]) ?_ fun e he => ?_
  · simp only [ok_c, ok_g, ok_v, ok_mv, ok_pr, ok_fz, ok_and, ok_or, ok_not, NB_bl, ok_ite, ok_chn, ok_lst', ok_tup', ok_call, ok_mut, ok_slcv, oa_nil, oa_v, oa_c, oa_g, oa_pr, oa_mv, oa_and, oa_or, oa_not, oa_fz, oa_chn, oa_slc, oa_ite, oa_call, oa_mut, oa_lst, oa_tup, oa_comp, or_nil, or_rf, or_v, or_c, or_g, or_pr, or_mv, or_and, or_or, or_not, or_fz, or_chn, or_slc, or_ite, or_call, or_mut, or_lst, or_tup, or_comp, reduceCtorEq, os_nil, os_cons, os_asg, os_unp, os_exs, os_aug, os_ife, os_ret, os_retN, os_rse, os_brk, os_cnt, os_pas, os_kil, os_asgP, os_fors, oi_rng1, oi_rng2, oi_v, IN_int, IN2_int, SL_int, OK_ok, OS_nx, OS_rt, OS_bk, OS_ct, SM_some, SM_if, SM_map, SM_bind, BR_bl, Cn.d, List.getElem?_cons_zero, List.getElem?_cons_succ, sl_z, sl_s, hoi, hos, hob, hon, hod, fzi, fzs, fzb, p_add, p_adds, p_sub, p_mul, p_fdiv, p_mod, p_pow, p_neg, p_lt, p_le, p_gt, p_ge, p_eqi, p_eqs, p_nei, p_nes, p_idx, p_lenS, p_lenL, p_lenT, p_lenC, p_abs, p_intb, idxL, idxC, idxT, idxS, Bool.not_false, Bool.not_true, true_and, and_true, decide_eq_true_eq, List.set_cons_zero, List.set_cons_succ, ok_fin, ok_finx, rf_nil, rf_rf, pb_nil, pb_rf, rf_c, pb_c, rf_g, pb_g, rf_pr, pb_pr, rf_mv, pb_mv, rf_and, pb_and, rf_or, pb_or, rf_not, pb_not, rf_fz, pb_fz, rf_chn, pb_chn, rf_slc, pb_slc, rf_ite, pb_ite, rf_call, pb_call, rf_mut, pb_mut, rf_lst, pb_lst, rf_tup, pb_tup, rf_comp, pb_comp, rf_v, pb_v, frz_nd, frz_i, frz_s, frz_b, frz_n, frzs_n, frzs_c, frzs_int, frzs_str, fzd, fzn, nh_nil, nh_cons, ao_nil, ao_cons, ct_nil, ct_cons, List.length_cons, List.length_nil, Nat.reduceAdd, Nat.reduceLeDiff, Nat.reduceBEq, Bool.and_self, Bool.true_and, Bool.and_true, Bool.false_or, Bool.or_false, Bool.or_self, decide_true, decide_false, if_true, if_false, reduceIte, Bool.false_eq_true, at0, at1, at2, at3, Nat.zero_add, Nat.reduceLT, Nat.reduceSub, not_true_eq_false, not_false_eq_true, oi_tup, oi_lst, oi_pr, oi_call, oi_slc, oi_fz, oi_ite, oi_comp, oi_c, oi_g, sq_str, sq_lst, sq_tup, ss_str, ss_lst, ss_scr, ss_tup, al_nil, al_cons, ifx_rng, ifx_fro, ifx_slot, ifx_slotT, isI_int, ne_eq, Int.reduceEq, Int.reduceNeg, Int.reduceLT, Int.reduceLE, hcj]
    rw [show [D.int 67, .int 67, .int 5] = List.map D.int [67, 67, 5] from rfl, hd]
    simp only [ok_c, ok_g, ok_v, ok_mv, ok_pr, ok_fz, ok_and, ok_or, ok_not, NB_bl, ok_ite, ok_chn, ok_lst', ok_tup', ok_call, ok_mut, ok_slcv, oa_nil, oa_v, oa_c, oa_g, oa_pr, oa_mv, oa_and, oa_or, oa_not, oa_fz, oa_chn, oa_slc, oa_ite, oa_call, oa_mut, oa_lst, oa_tup, oa_comp, or_nil, or_rf, or_v, or_c, or_g, or_pr, or_mv, or_and, or_or, or_not, or_fz, or_chn, or_slc, or_ite, or_call, or_mut, or_lst, or_tup, or_comp, reduceCtorEq, os_nil, os_cons, os_asg, os_unp, os_exs, os_aug, os_ife, os_ret, os_retN, os_rse, os_brk, os_cnt, os_pas, os_kil, os_asgP, os_fors, oi_rng1, oi_rng2, oi_v, IN_int, IN2_int, SL_int, OK_ok, OS_nx, OS_rt, OS_bk, OS_ct, SM_some, SM_if, SM_map, SM_bind, BR_bl, Cn.d, List.getElem?_cons_zero, List.getElem?_cons_succ, sl_z, sl_s, hoi, hos, hob, hon, hod, fzi, fzs, fzb, p_add, p_adds, p_sub, p_mul, p_fdiv, p_mod, p_pow, p_neg, p_lt, p_le, p_gt, p_ge, p_eqi, p_eqs, p_nei, p_nes, p_idx, p_lenS, p_lenL, p_lenT, p_lenC, p_abs, p_intb, idxL, idxC, idxT, idxS, Bool.not_false, Bool.not_true, true_and, and_true, decide_eq_true_eq, List.set_cons_zero, List.set_cons_succ, ok_fin, ok_finx, rf_nil, rf_rf, pb_nil, pb_rf, rf_c, pb_c, rf_g, pb_g, rf_pr, pb_pr, rf_mv, pb_mv, rf_and, pb_and, rf_or, pb_or, rf_not, pb_not, rf_fz, pb_fz, rf_chn, pb_chn, rf_slc, pb_slc, rf_ite, pb_ite, rf_call, pb_call, rf_mut, pb_mut, rf_lst, pb_lst, rf_tup, pb_tup, rf_comp, pb_comp, rf_v, pb_v, frz_nd, frz_i, frz_s, frz_b, frz_n, frzs_n, frzs_c, frzs_int, frzs_str, fzd, fzn, nh_nil, nh_cons, ao_nil, ao_cons, ct_nil, ct_cons, List.length_cons, List.length_nil, Nat.reduceAdd, Nat.reduceLeDiff, Nat.reduceBEq, Bool.and_self, Bool.true_and, Bool.and_true, Bool.false_or, Bool.or_false, Bool.or_self, decide_true, decide_false, if_true, if_false, reduceIte, Bool.false_eq_true, at0, at1, at2, at3, Nat.zero_add, Nat.reduceLT, Nat.reduceSub, not_true_eq_false, not_false_eq_true, oi_tup, oi_lst, oi_pr, oi_call, oi_slc, oi_fz, oi_ite, oi_comp, oi_c, oi_g, sq_str, sq_lst, sq_tup, ss_str, ss_lst, ss_scr, ss_tup, al_nil, al_cons, ifx_rng, ifx_fro, ifx_slot, ifx_slotT, isI_int, ne_eq, Int.reduceEq, Int.reduceNeg, Int.reduceLT, Int.reduceLE]
  subst he
  obtain ⟨low, l0, l1⟩ : ∃ low : Int, t0.fmod vows.length = low ∧ 0 ≤ low ∧ low < vows.length := ⟨_, rfl, fmod_b _ (by omega)⟩
  refine os_seq (fun e => e = [.nd .lst false (ms.map .int), .int n, .nd .lst false (rows.map .str), .nd .lst false (vows.map vD), .int j, .nd .lst false [.int t0, .int t1, .int t2], .int low, x7, x8, x9]) ?_ fun e he => ?_
  · simp only [ok_c, ok_g, ok_v, ok_mv, ok_pr, ok_fz, ok_and, ok_or, ok_not, NB_bl, ok_ite, ok_chn, ok_lst', ok_tup', ok_call, ok_mut, ok_slcv, oa_nil, oa_v, oa_c, oa_g, oa_pr, oa_mv, oa_and, oa_or, oa_not, oa_fz, oa_chn, oa_slc, oa_ite, oa_call, oa_mut, oa_lst, oa_tup, oa_comp, or_nil, or_rf, or_v, or_c, or_g, or_pr, or_mv, or_and, or_or, or_not, or_fz, or_chn, or_slc, or_ite, or_call, or_mut, or_lst, or_tup, or_comp, reduceCtorEq, os_nil, os_cons, os_asg, os_unp, os_exs, os_aug, os_ife, os_ret, os_retN, os_rse, os_brk, os_cnt, os_pas, os_kil, os_asgP, os_fors, oi_rng1, oi_rng2, oi_v, IN_int, IN2_int, SL_int, OK_ok, OS_nx, OS_rt, OS_bk, OS_ct, SM_some, SM_if, SM_map, SM_bind, BR_bl, Cn.d, List.getElem?_cons_zero, List.getElem?_cons_succ, sl_z, sl_s, hoi, hos, hob, hon, hod, fzi, fzs, fzb, p_add, p_adds, p_sub, p_mul, p_fdiv, p_mod, p_pow, p_neg, p_lt, p_le, p_gt, p_ge, p_eqi, p_eqs, p_nei, p_nes, p_idx, p_lenS, p_lenL, p_lenT, p_lenC, p_abs, p_intb, idxL, idxC, idxT, idxS, Bool.not_false, Bool.not_true, true_and, and_true, decide_eq_true_eq, List.set_cons_zero, List.set_cons_succ, ok_fin, ok_finx, rf_nil, rf_rf, pb_nil, pb_rf, rf_c, pb_c, rf_g, pb_g, rf_pr, pb_pr, rf_mv, pb_mv, rf_and, pb_and, rf_or, pb_or, rf_not, pb_not, rf_fz, pb_fz, rf_chn, pb_chn, rf_slc, pb_slc, rf_ite, pb_ite, rf_call, pb_call, rf_mut, pb_mut, rf_lst, pb_lst, rf_tup, pb_tup, rf_comp, pb_comp, rf_v, pb_v, frz_nd, frz_i, frz_s, frz_b, frz_n, frzs_n, frzs_c, frzs_int, frzs_str, fzd, fzn, nh_nil, nh_cons, ao_nil, ao_cons, ct_nil, ct_cons, List.length_cons, List.length_nil, Nat.reduceAdd, Nat.reduceLeDiff, Nat.reduceBEq, Bool.and_self, Bool.true_and, Bool.and_true, Bool.false_or, Bool.or_false, Bool.or_self, decide_true, decide_false, if_true, if_false, reduceIte, Bool.false_eq_true, at0, at1, at2, at3, Nat.zero_add, Nat.reduceLT, Nat.reduceSub, not_true_eq_false, not_false_eq_true, oi_tup, oi_lst, oi_pr, oi_call, oi_slc, oi_fz, oi_ite, oi_comp, oi_c, oi_g, sq_str, sq_lst, sq_tup, ss_str, ss_lst, ss_scr, ss_tup, al_nil, al_cons, ifx_rng, ifx_fro, ifx_slot, ifx_slotT, isI_int, ne_eq, Int.reduceEq, Int.reduceNeg, Int.reduceLT, Int.reduceLE, at0, List.length_map, l0]
    omega
  subst he
  refine os_seq (fun e => ∃ some_ : List Vow, some_.length ≤ vows.length ∧ (∀ v ∈ some_, VOk n v) ∧ e = [.nd .lst false (ms.map .int), .int n, .nd .lst false (rows.map .str), .nd .lst false (vows.map vD), .int j, .nd .lst false [.int t0, .int t1, .int t2], .int low, .nd .lst false (some_.map vD), x8, x9]) ?_ fun e he => ?_
  · simp only [ok_c, ok_g, ok_v, ok_mv, ok_pr, ok_fz, ok_and, ok_or, ok_not, NB_bl, ok_ite, ok_chn, ok_lst', ok_tup', ok_call, ok_mut, ok_slcv, oa_nil, oa_v, oa_c, oa_g, oa_pr, oa_mv, oa_and, oa_or, oa_not, oa_fz, oa_chn, oa_slc, oa_ite, oa_call, oa_mut, oa_lst, oa_tup, oa_comp, or_nil, or_rf, or_v, or_c, or_g, or_pr, or_mv, or_and, or_or, or_not, or_fz, or_chn, or_slc, or_ite, or_call, or_mut, or_lst, or_tup, or_comp, reduceCtorEq, os_nil, os_cons, os_asg, os_unp, os_exs, os_aug, os_ife, os_ret, os_retN, os_rse, os_brk, os_cnt, os_pas, os_kil, os_asgP, os_fors, oi_rng1, oi_rng2, oi_v, IN_int, IN2_int, SL_int, OK_ok, OS_nx, OS_rt, OS_bk, OS_ct, SM_some, SM_if, SM_map, SM_bind, BR_bl, Cn.d, List.getElem?_cons_zero, List.getElem?_cons_succ, sl_z, sl_s, hoi, hos, hob, hon, hod, fzi, fzs, fzb, p_add, p_adds, p_sub, p_mul, p_fdiv, p_mod, p_pow, p_neg, p_lt, p_le, p_gt, p_ge, p_eqi, p_eqs, p_nei, p_nes, p_idx, p_lenS, p_lenL, p_lenT, p_lenC, p_abs, p_intb, idxL, idxC, idxT, idxS, Bool.not_false, Bool.not_true, true_and, and_true, decide_eq_true_eq, List.set_cons_zero, List.set_cons_succ, ok_fin, ok_finx, rf_nil, rf_rf, pb_nil, pb_rf, rf_c, pb_c, rf_g, pb_g, rf_pr, pb_pr, rf_mv, pb_mv, rf_and, pb_and, rf_or, pb_or, rf_not, pb_not, rf_fz, pb_fz, rf_chn, pb_chn, rf_slc, pb_slc, rf_ite, pb_ite, rf_call, pb_call, rf_mut, pb_mut, rf_lst, pb_lst, rf_tup, pb_tup, rf_comp, pb_comp, rf_v, pb_v, frz_nd, frz_i, frz_s, frz_b, frz_n, frzs_n, frzs_c, frzs_int, frzs_str, fzd, fzn, nh_nil, nh_cons, ao_nil, ao_cons, ct_nil, ct_cons, List.length_cons, List.length_nil, Nat.reduceAdd, Nat.reduceLeDiff, Nat.reduceBEq, Bool.and_self, Bool.true_and, Bool.and_true, Bool.false_or, Bool.or_false, Bool.or_self, decide_true, decide_false, if_true, if_false, reduceIte, Bool.false_eq_true, at0, at1, at2, at3, Nat.zero_add, Nat.reduceLT, Nat.reduceSub, not_true_eq_false, not_false_eq_true, oi_tup, oi_lst, oi_pr, oi_call, oi_slc, oi_fz, oi_ite, oi_comp, oi_c, oi_g, sq_str, sq_lst, sq_tup, ss_str, ss_lst, ss_scr, ss_tup, al_nil, al_cons, ifx_rng, ifx_fro, ifx_slot, ifx_slotT, isI_int, ne_eq, Int.reduceEq, Int.reduceNeg, Int.reduceLT, Int.reduceLE, at0, at1, at2, p_slcV, p_listV, frzs_vow, isI]
    split
    · exact ⟨_, cutL_len _ _ _, fun v hv => yvows v (cutL_mem hv), rfl⟩
    · exact ⟨_, Nat.le_refl _, yvows, rfl⟩
  obtain ⟨some_, ls, ys, rfl⟩ := he
  have hrow : ∀ i : Nat, i < rows.length → (ch' rows i).length = n ∧ YN (ch' rows i) := fun i hi => yrows _ (by unfold ch'; simp [hi])
  obtain ⟨i1, e1, hi1⟩ : ∃ i1 : Nat, t1.fmod rows.length = (i1 : Int) ∧ i1 < rows.length := by
    have := fmod_b t1 (m := rows.length) (by omega)
    exact ⟨(t1.fmod rows.length).toNat, by omega, by omega⟩
  have hr1 := hrow j hj
  have hr2 := hrow i1 hi1
  have haj : atI (rows.map D.str) (j : Int) = some (.str (ch' rows j)) := by rw [atI_nat]; simp [hj, ch']
  have hai : atI (rows.map D.str) (i1 : Int) = some (.str (ch' rows i1)) := by rw [atI_nat]; simp [hi1, ch']
  refine os_seq (fun e => ∃ x8 x9, e = [.nd .lst false (ms.map .int), .int n, .nd .lst false (rows.map .str), .nd .lst false (vows.map vD), .int j, .nd .lst false [.int t0, .int t1, .int t2], .int low, .nd .lst false (some_.map vD), x8, x9]) ?_ fun e he => ?_
  · have key : ∀ r : List Nat, r.length = n → ∀ e, (∃ x8 x9, e = [.nd .lst false (ms.map .int), .int n, .nd .lst false (rows.map .str), .nd .lst false (vows.map vD), .int j, .nd .lst false [.int t0, .int t1, .int t2], .int low, .nd .lst false (some_.map vD), x8, x9]) → OS (Po.mk (fun e => ∃ x8 x9, e = [.nd .lst false (ms.map .int), .int n, .nd .lst false (rows.map .str), .nd .lst false (vows.map vD), .int j, .nd .lst false [.int t0, .int t1, .int t2], .int low, .nd .lst false (some_.map vD), x8, x9]) (fun _ _ => False) (fun _ => False) (fun _ => False) (fun _ _ => False)) (turnF (fun x e => bindT [] (.one 8) x e) (fun e => execs (gam P 6) [.asg 9 (.fz (.pr .list [(.v 7)])), .ife (.or (.not (.call 3 [(.fz (.call 0 [(.v 8), (.v 9)])), (.fz (.call 12 [(.v 8), (.v 7)]))])) (.not (.call 3 [(.v 9), (.v 7)]))) [.ret (.c (.bl false))] []] [] e) (.str r) e) := by
      intro r hr e he
      obtain ⟨x8, x9, rfl⟩ := he
      have k1 := keeps_ok (k := 5) h0 false r some_ n hr (by omega) ys (by omega)
      have k2 := law_keeps_ok (k := 5) h12 false r some_ n hr (by omega) ys (by omega)
      have s1 := same_sc h3 (.bl (some_.all (keep1 r))) rfl 5
      have s2 := same_ok h3 2 _ (Pl_vow some_ false (by omega)) 5 (by omega)
      rw [os_turn, sb_one]
      simp only [ok_c, ok_g, ok_v, ok_mv, ok_pr, ok_fz, ok_and, ok_or, ok_not, NB_bl, ok_ite, ok_chn, ok_lst', ok_tup', ok_call, ok_mut, ok_slcv, oa_nil, oa_v, oa_c, oa_g, oa_pr, oa_mv, oa_and, oa_or, oa_not, oa_fz, oa_chn, oa_slc, oa_ite, oa_call, oa_mut, oa_lst, oa_tup, oa_comp, or_nil, or_rf, or_v, or_c, or_g, or_pr, or_mv, or_and, or_or, or_not, or_fz, or_chn, or_slc, or_ite, or_call, or_mut, or_lst, or_tup, or_comp, reduceCtorEq, os_nil, os_cons, os_asg, os_unp, os_exs, os_aug, os_ife, os_ret, os_retN, os_rse, os_brk, os_cnt, os_pas, os_kil, os_asgP, os_fors, oi_rng1, oi_rng2, oi_v, IN_int, IN2_int, SL_int, OK_ok, OS_nx, OS_rt, OS_bk, OS_ct, SM_some, SM_if, SM_map, SM_bind, BR_bl, Cn.d, List.getElem?_cons_zero, List.getElem?_cons_succ, sl_z, sl_s, hoi, hos, hob, hon, hod, fzi, fzs, fzb, p_add, p_adds, p_sub, p_mul, p_fdiv, p_mod, p_pow, p_neg, p_lt, p_le, p_gt, p_ge, p_eqi, p_eqs, p_nei, p_nes, p_idx, p_lenS, p_lenL, p_lenT, p_lenC, p_abs, p_intb, idxL, idxC, idxT, idxS, Bool.not_false, Bool.not_true, true_and, and_true, decide_eq_true_eq, List.set_cons_zero, List.set_cons_succ, ok_fin, ok_finx, rf_nil, rf_rf, pb_nil, pb_rf, rf_c, pb_c, rf_g, pb_g, rf_pr, pb_pr, rf_mv, pb_mv, rf_and, pb_and, rf_or, pb_or, rf_not, pb_not, rf_fz, pb_fz, rf_chn, pb_chn, rf_slc, pb_slc, rf_ite, pb_ite, rf_call, pb_call, rf_mut, pb_mut, rf_lst, pb_lst, rf_tup, pb_tup, rf_comp, pb_comp, rf_v, pb_v, frz_nd, frz_i, frz_s, frz_b, frz_n, frzs_n, frzs_c, frzs_int, frzs_str, fzd, fzn, nh_nil, nh_cons, ao_nil, ao_cons, ct_nil, ct_cons, List.length_cons, List.length_nil, Nat.reduceAdd, Nat.reduceLeDiff, Nat.reduceBEq, Bool.and_self, Bool.true_and, Bool.and_true, Bool.false_or, Bool.or_false, Bool.or_self, decide_true, decide_false, if_true, if_false, reduceIte, Bool.false_eq_true, at0, at1, at2, at3, Nat.zero_add, Nat.reduceLT, Nat.reduceSub, not_true_eq_false, not_false_eq_true, oi_tup, oi_lst, oi_pr, oi_call, oi_slc, oi_fz, oi_ite, oi_comp, oi_c, oi_g, sq_str, sq_lst, sq_tup, ss_str, ss_lst, ss_scr, ss_tup, al_nil, al_cons, ifx_rng, ifx_fro, ifx_slot, ifx_slotT, isI_int, ne_eq, Int.reduceEq, Int.reduceNeg, Int.reduceLT, Int.reduceLE, p_listV, frzs_vow, k1, k2, s1, s2]
      exact ⟨_, _, rfl⟩
    simp only [ok_c, ok_g, ok_v, ok_mv, ok_pr, ok_fz, ok_and, ok_or, ok_not, NB_bl, ok_ite, ok_chn, ok_lst', ok_tup', ok_call, ok_mut, ok_slcv, oa_nil, oa_v, oa_c, oa_g, oa_pr, oa_mv, oa_and, oa_or, oa_not, oa_fz, oa_chn, oa_slc, oa_ite, oa_call, oa_mut, oa_lst, oa_tup, oa_comp, or_nil, or_rf, or_v, or_c, or_g, or_pr, or_mv, or_and, or_or, or_not, or_fz, or_chn, or_slc, or_ite, or_call, or_mut, or_lst, or_tup, or_comp, reduceCtorEq, os_nil, os_cons, os_asg, os_unp, os_exs, os_aug, os_ife, os_ret, os_retN, os_rse, os_brk, os_cnt, os_pas, os_kil, os_asgP, os_fors, oi_rng1, oi_rng2, oi_v, IN_int, IN2_int, SL_int, OK_ok, OS_nx, OS_rt, OS_bk, OS_ct, SM_some, SM_if, SM_map, SM_bind, BR_bl, Cn.d, List.getElem?_cons_zero, List.getElem?_cons_succ, sl_z, sl_s, hoi, hos, hob, hon, hod, fzi, fzs, fzb, p_add, p_adds, p_sub, p_mul, p_fdiv, p_mod, p_pow, p_neg, p_lt, p_le, p_gt, p_ge, p_eqi, p_eqs, p_nei, p_nes, p_idx, p_lenS, p_lenL, p_lenT, p_lenC, p_abs, p_intb, idxL, idxC, idxT, idxS, Bool.not_false, Bool.not_true, true_and, and_true, decide_eq_true_eq, List.set_cons_zero, List.set_cons_succ, ok_fin, ok_finx, rf_nil, rf_rf, pb_nil, pb_rf, rf_c, pb_c, rf_g, pb_g, rf_pr, pb_pr, rf_mv, pb_mv, rf_and, pb_and, rf_or, pb_or, rf_not, pb_not, rf_fz, pb_fz, rf_chn, pb_chn, rf_slc, pb_slc, rf_ite, pb_ite, rf_call, pb_call, rf_mut, pb_mut, rf_lst, pb_lst, rf_tup, pb_tup, rf_comp, pb_comp, rf_v, pb_v, frz_nd, frz_i, frz_s, frz_b, frz_n, frzs_n, frzs_c, frzs_int, frzs_str, fzd, fzn, nh_nil, nh_cons, ao_nil, ao_cons, ct_nil, ct_cons, List.length_cons, List.length_nil, Nat.reduceAdd, Nat.reduceLeDiff, Nat.reduceBEq, Bool.and_self, Bool.true_and, Bool.and_true, Bool.false_or, Bool.or_false, Bool.or_self, decide_true, decide_false, if_true, if_false, reduceIte, Bool.false_eq_true, at0, at1, at2, at3, Nat.zero_add, Nat.reduceLT, Nat.reduceSub, not_true_eq_false, not_false_eq_true, oi_tup, oi_lst, oi_pr, oi_call, oi_slc, oi_fz, oi_ite, oi_comp, oi_c, oi_g, sq_str, sq_lst, sq_tup, ss_str, ss_lst, ss_scr, ss_tup, al_nil, al_cons, ifx_rng, ifx_fro, ifx_slot, ifx_slotT, isI_int, ne_eq, Int.reduceEq, Int.reduceNeg, Int.reduceLT, Int.reduceLE, haj, hai, List.length_map, e1]
    refine ⟨by omega, ?_⟩
    refine loop_fro (fun e => ∃ x8 x9, e = [.nd .lst false (ms.map .int), .int n, .nd .lst false (rows.map .str), .nd .lst false (vows.map vD), .int j, .nd .lst false [.int t0, .int t1, .int t2], .int low, .nd .lst false (some_.map vD), x8, x9]) ?_ ?_ (fun x hx e he => ?_) (fun e he => ?_)
    · simp
    · exact ⟨_, _, rfl⟩
    · rcases List.mem_cons.mp hx with rfl | hx
      · exact OS_mono (key _ hr1.1 e he) (fun _ z => z) (fun _ _ z => z.elim) (fun _ z => z.elim) (fun _ z => z.elim) (fun _ _ z => z.elim)
      · rcases List.mem_cons.mp hx with rfl | hx
        · exact OS_mono (key _ hr2.1 e he) (fun _ z => z) (fun _ _ z => z.elim) (fun _ z => z.elim) (fun _ z => z.elim) (fun _ _ z => z.elim)
        · cases hx
    · exact he
  obtain ⟨x8, x9, rfl⟩ := he
  have k1 : (gam P 6).run 0 [.str (ch' rows j), .nd .lst false []] = .ok (.bl true) [.str (ch' rows j), .nd .lst false []] := keeps_ok (k := 5) h0 false (ch' rows j) [] n hr1.1 (by omega) (by simp) (by simp)
  have s1 := same_sc h3 (.bl true) rfl 5
  simp only [ok_c, ok_g, ok_v, ok_mv, ok_pr, ok_fz, ok_and, ok_or, ok_not, NB_bl, ok_ite, ok_chn, ok_lst', ok_tup', ok_call, ok_mut, ok_slcv, oa_nil, oa_v, oa_c, oa_g, oa_pr, oa_mv, oa_and, oa_or, oa_not, oa_fz, oa_chn, oa_slc, oa_ite, oa_call, oa_mut, oa_lst, oa_tup, oa_comp, or_nil, or_rf, or_v, or_c, or_g, or_pr, or_mv, or_and, or_or, or_not, or_fz, or_chn, or_slc, or_ite, or_call, or_mut, or_lst, or_tup, or_comp, reduceCtorEq, os_nil, os_cons, os_asg, os_unp, os_exs, os_aug, os_ife, os_ret, os_retN, os_rse, os_brk, os_cnt, os_pas, os_kil, os_asgP, os_fors, oi_rng1, oi_rng2, oi_v, IN_int, IN2_int, SL_int, OK_ok, OS_nx, OS_rt, OS_bk, OS_ct, SM_some, SM_if, SM_map, SM_bind, BR_bl, Cn.d, List.getElem?_cons_zero, List.getElem?_cons_succ, sl_z, sl_s, hoi, hos, hob, hon, hod, fzi, fzs, fzb, p_add, p_adds, p_sub, p_mul, p_fdiv, p_mod, p_pow, p_neg, p_lt, p_le, p_gt, p_ge, p_eqi, p_eqs, p_nei, p_nes, p_idx, p_lenS, p_lenL, p_lenT, p_lenC, p_abs, p_intb, idxL, idxC, idxT, idxS, Bool.not_false, Bool.not_true, true_and, and_true, decide_eq_true_eq, List.set_cons_zero, List.set_cons_succ, ok_fin, ok_finx, rf_nil, rf_rf, pb_nil, pb_rf, rf_c, pb_c, rf_g, pb_g, rf_pr, pb_pr, rf_mv, pb_mv, rf_and, pb_and, rf_or, pb_or, rf_not, pb_not, rf_fz, pb_fz, rf_chn, pb_chn, rf_slc, pb_slc, rf_ite, pb_ite, rf_call, pb_call, rf_mut, pb_mut, rf_lst, pb_lst, rf_tup, pb_tup, rf_comp, pb_comp, rf_v, pb_v, frz_nd, frz_i, frz_s, frz_b, frz_n, frzs_n, frzs_c, frzs_int, frzs_str, fzd, fzn, nh_nil, nh_cons, ao_nil, ao_cons, ct_nil, ct_cons, List.length_cons, List.length_nil, Nat.reduceAdd, Nat.reduceLeDiff, Nat.reduceBEq, Bool.and_self, Bool.true_and, Bool.and_true, Bool.false_or, Bool.or_false, Bool.or_self, decide_true, decide_false, if_true, if_false, reduceIte, Bool.false_eq_true, at0, at1, at2, at3, Nat.zero_add, Nat.reduceLT, Nat.reduceSub, not_true_eq_false, not_false_eq_true, oi_tup, oi_lst, oi_pr, oi_call, oi_slc, oi_fz, oi_ite, oi_comp, oi_c, oi_g, sq_str, sq_lst, sq_tup, ss_str, ss_lst, ss_scr, ss_tup, al_nil, al_cons, ifx_rng, ifx_fro, ifx_slot, ifx_slotT, isI_int, ne_eq, Int.reduceEq, Int.reduceNeg, Int.reduceLT, Int.reduceLE, haj, k1, s1]
  exact ⟨_, _, _, _, _, _, rfl⟩
end
end Wap
set_option Elab.async false
set_option linter.all false
set_option maxRecDepth 100000
set_option maxHeartbeats 400000
/-! S12: walks and comprehensions over ranges and slots, in one step each. -/
namespace Wap
open PySem L2
section
variable {G : Gam} {fx : List Nat} {env : List D} {q : Po} {X : Nat → List D → Prop} {Q : D → List D → Prop}
theorem small_n {n : Nat} (h : n ≤ 1000000) : small (n : Int) = true := by simp [small]; omega
theorem lim_n {n : Nat} (h : n ≤ 1000000) : n ≤ lim := by unfold lim; omega
def AU (q : Po) (fx : List Nat) (i : Nat) (e : List D) : D → D → Prop
  | .int a, .int b => OS q (asgP fx i (.int (a + b)) e)
  | .str a, .str b => a.length + b.length ≤ lim ∧ OS q (asgP fx i (.str (a ++ b)) e)
  | .nd .lst true xs, .nd .lst o ys => ((o || ys.all fz) && !ys.any isHole && decide (xs.length + ys.length ≤ lim) && !fx.contains i) = true ∧ q.nx (e.set i (.nd .lst true (xs ++ ys)))
  | _, _ => False
theorem os_augP {i : Nat} {d : D} {e : List D} : OS q (augP fx i d e) = SM (fun x => AU q fx i e x d) e[i]? := by
  unfold augP
  cases e[i]? with
  | none => rfl
  | some x =>
    show _ = AU q fx i e x d
    cases x with
    | int a => cases d <;> rfl
    | str a =>
      cases d with
      | str b => show OS q (if a.length + b.length ≤ lim then _ else _) = _; rw [OS_if]; rfl
      | _ => rfl
    | nd kd o xs =>
      cases kd <;> cases o <;> cases d <;> try rfl
      rename_i kd o ys
      cases kd <;> try rfl
      show OS q (if ((o || ys.all fz) && !ys.any isHole && decide (xs.length + ys.length ≤ lim) && !fx.contains i) = true then _ else _) = _
      rw [OS_if]
      rfl
    | _ => cases d <;> rfl
theorem AU_int {i : Nat} {e : List D} {a b : Int} : AU q fx i e (.int a) (.int b) = OS q (asgP fx i (.int (a + b)) e) := Eq.trans rfl rfl
theorem AU_str {i : Nat} {e : List D} {a b : List Nat} : AU q fx i e (.str a) (.str b) = (a.length + b.length ≤ lim ∧ OS q (asgP fx i (.str (a ++ b)) e)) := Eq.trans rfl rfl
theorem AU_lst {i : Nat} {e : List D} {o : Bool} {xs ys : List D} : AU q fx i e (.nd .lst true xs) (.nd .lst o ys) = (((o || ys.all fz) && !ys.any isHole && decide (xs.length + ys.length ≤ lim) && !fx.contains i) = true ∧ q.nx (e.set i (.nd .lst true (xs ++ ys)))) := Eq.trans rfl rfl
/-! walks -/
theorem loop_rng {turn : D → List D → Fl} {e0 : List D} {lo : Int} {n : Nat} (I : Nat → List D → Prop) (hn : n ≤ 1000000) (h0 : I 0 e0) (hs : ∀ j e, j < n → I j e → OS { nx := I (j + 1), ct := I (j + 1), bk := q.nx, rt := q.rt, ex := q.ex } (turn (.int (lo + j)) e)) (hd : ∀ e, I n e → q.nx e) : OS q (loopL (itm (.rng lo n)) turn fuel 0 e0) :=
  loop_rule (n := n) (x := fun j => .int (lo + j)) I (by unfold fuel; omega) h0 (fun j e hj he => by simp [itm, hj]) (fun e he => by simp [itm]) hs hd
theorem loop_rng0 {turn : D → List D → Fl} {e0 : List D} {n : Nat} (I : Nat → List D → Prop) (hn : n ≤ 1000000) (h0 : I 0 e0) (hs : ∀ j e, j < n → I j e → OS { nx := I (j + 1), ct := I (j + 1), bk := q.nx, rt := q.rt, ex := q.ex } (turn (.int j) e)) (hd : ∀ e, I n e → q.nx e) : OS q (loopL (itm (.rng 0 n)) turn fuel 0 e0) :=
  loop_rng I hn h0 (fun j e hj he => by rw [Int.zero_add]; exact hs j e hj he) hd
/-- over the list in a slot, which stays -/
theorem loop_slot {α : Type} {turn : D → List D → Fl} {e0 : List D} {i : Nat} {f : α → D} {l : List α} (I : Nat → List D → Prop) (hn : l.length ≤ 1000000) (h0 : I 0 e0) (hx : ∀ j e, I j e → ∃ o, e[i]? = some (.nd .lst o (l.map f))) (hs : ∀ j (hj : j < l.length) e, I j e → OS { nx := I (j + 1), ct := I (j + 1), bk := q.nx, rt := q.rt, ex := q.ex } (turn (f l[j]) e)) (hd : ∀ e, I l.length e → q.nx e) : OS q (loopL (itm (.slot i)) turn fuel 0 e0) := by
  refine loop_rule (n := l.length) (x := fun j => if hj : j < l.length then f l[j] else .hole) I (by unfold fuel; omega) h0 (fun j e hj he => ?_) (fun e he => ?_) (fun j e hj he => ?_) hd
  · obtain ⟨o, ho⟩ := hx j e he
    simp [itm, ho, hj]
  · obtain ⟨o, ho⟩ := hx _ e he
    simp [itm, ho]
  · simp only [hj, dif_pos]
    exact hs j hj e he
theorem turn_one {body : List D → Fl} {j : Nat} {x : D} {e : List D} : OS q (turnF (fun x e => bindT fx (.one j) x e) body x e) = (fx.contains j = false ∧ fz x = true ∧ j < e.length ∧ OS q (body (e.set j x))) := by
  rw [os_turn, sb_one]
theorem turn_tup {body : List D → Fl} {js : List Nat} {xs : List D} {e : List D} : OS q (turnF (fun x e => bindT fx (.tup js) x e) body (.nd .tup false xs) e) = ((xs.length = js.length ∧ xs.all fz ∧ js.all (fun j => !fx.contains j && decide (j < e.length))) ∧ OS q (body ((js.zip xs).foldl (fun e p => e.set p.1 p.2) e))) := by
  rw [os_turn, sb_tup]
/-! comprehensions -/
def okV (v : Nat) (fx : List Nat) (env : List D) : Bool := (match env[v]? with | some d => isHole d || fz d | none => false) && !fx.contains v
theorem okV_lt {v : Nat} (h : okV v fx env = true) : v < env.length ∧ fx.contains v = false := by
  unfold okV at h
  simp only [Bool.and_eq_true, Bool.not_eq_true'] at h
  refine ⟨?_, h.2⟩
  cases hv : env[v]? with
  | none => rw [hv] at h; simp at h
  | some d => exact (List.getElem?_eq_some_iff.mp hv).1
theorem set_set {v : Nat} {a b : D} {e : List D} : (e.set v a).set v b = e.set v b := List.set_set ..
theorem okV_c {v : Nat} (h : okV v fx env = true) : (tgIn (.one v) [v] && [v].all (fun j => (match env[j]? with | some d => isHole d || fz d | none => false) && !fx.contains j)) = true := by
  rw [show tgIn (.one v) [v] = true by simp [tgIn]]
  simp only [List.all_cons, List.all_nil, Bool.and_true, Bool.true_and]
  exact h
theorem range_get {α : Type} (l : List α) : (List.range l.length).filterMap (fun j : Nat => l[j]?) = l := by
  induction l with
  | nil => rfl
  | cons a l ih =>
    rw [List.length_cons, List.range_succ_eq_map, List.filterMap_cons]
    simp only [List.getElem?_cons_zero, List.filterMap_map]
    congr 1
theorem range_bind {α β : Type} (l : List α) (g : α → Option β) : (List.range l.length).filterMap (fun j : Nat => (l[j]?).bind g) = l.filterMap g := by
  have h := congrArg (List.filterMap g) (range_get l)
  rw [List.filterMap_filterMap] at h
  exact h
/-- over range(a), with a test -/
theorem comp_rngC {v : Nat} {a c elt : Xp} {n : Nat} (g : Nat → Option D) (hn : n ≤ 1000000) (h1 : okV v fx env = true) (ha : OK NX (fun d e => d = .int n ∧ e = env) (ev G a fx env))
    (hs : ∀ j, j < n → OK NX (fun d e2 => BR d (OK NX (fun y e3 => isHole y = false ∧ g j = some y ∧ e3.set v .hole = env.set v .hole) (ev G elt fx e2)) (g j = none ∧ e2.set v .hole = env.set v .hole)) (ev G c fx (env.set v (.int j))))
    (hQ : Q (.nd .lst true ((List.range n).filterMap g)) env) : OK X Q (ev G (.comp (.one v) .rng1 [a] [c] elt [v]) fx env) := by
  obtain ⟨hv, hf⟩ := okV_lt h1
  refine ok_comp (n := n) (fun j => .int j) g (by unfold lim; omega) (okV_c h1) ?_ hQ
  rw [oi_rng1]
  cases ho : ev G a fx env with
  | exc w e => rw [ho] at ha; exact ha.elim
  | bad => rw [ho] at ha; exact ha.elim
  | ok d e =>
    rw [ho] at ha
    obtain ⟨rfl, rfl⟩ := ha
    rw [OK_ok, IN_int]
    refine ⟨small_n hn, rfl, fun j hj => by simp [itm, hj], by simp [itm], fun j hj => ?_⟩
    rw [sb_one]
    refine ⟨hf, rfl, by simp [kills, hv], ?_⟩
    simp only [kills, List.foldl_cons, List.foldl_nil, set_set]
    exact hs j hj
theorem comp_rng {v : Nat} {a elt : Xp} {n : Nat} (f : Nat → D) (hn : n ≤ 1000000) (h1 : okV v fx env = true) (ha : OK NX (fun d e => d = .int n ∧ e = env) (ev G a fx env))
    (hs : ∀ j, j < n → OK NX (fun y e3 => isHole y = false ∧ f j = y ∧ e3.set v .hole = env.set v .hole) (ev G elt fx (env.set v (.int j))))
    (hQ : Q (.nd .lst true ((List.range n).map f)) env) : OK X Q (ev G (.comp (.one v) .rng1 [a] [] elt [v]) fx env) := by
  obtain ⟨hv, hf⟩ := okV_lt h1
  refine ok_comp (n := n) (fun j => .int j) (fun j => some (f j)) (by unfold lim; omega) (okV_c h1) ?_ ?_
  · rw [oi_rng1]
    cases ho : ev G a fx env with
    | exc w e => rw [ho] at ha; exact ha.elim
    | bad => rw [ho] at ha; exact ha.elim
    | ok d e =>
      rw [ho] at ha
      obtain ⟨rfl, rfl⟩ := ha
      rw [OK_ok, IN_int]
      refine ⟨small_n hn, rfl, fun j hj => by simp [itm, hj], by simp [itm], fun j hj => ?_⟩
      rw [sb_one]
      refine ⟨hf, rfl, by simp [kills, hv], ?_⟩
      simp only [kills, List.foldl_cons, List.foldl_nil, set_set, evC, OK_ok, BR_bl, if_true, Option.some.injEq]
      exact hs j hj
  · rw [List.filterMap_eq_map']
    exact hQ
/-- over the list in a slot -/
theorem comp_slotC {α : Type} {v i : Nat} {c elt : Xp} {o : Bool} {t : α → D} {l : List α} (g : α → Option D) (hn : l.length ≤ 1000000) (h1 : okV v fx env = true) (hi : env[i]? = some (.nd .lst o (l.map t))) (hvi : v ≠ i) (ht : ∀ a ∈ l, fz (t a) = true)
    (hs : ∀ a ∈ l, OK NX (fun d e2 => BR d (OK NX (fun y e3 => isHole y = false ∧ g a = some y ∧ e3.set v .hole = env.set v .hole) (ev G elt (i :: fx) e2)) (g a = none ∧ e2.set v .hole = env.set v .hole)) (ev G c (i :: fx) (env.set v (t a))))
    (hQ : Q (.nd .lst true (l.filterMap g)) env) : OK X Q (ev G (.comp (.one v) .seq [.v i] [c] elt [v]) fx env) := by
  obtain ⟨hv, hf⟩ := okV_lt h1
  have hk : (kills [v] env)[i]? = some (.nd .lst o (l.map t)) := by
    simp only [kills, List.foldl_cons, List.foldl_nil]
    rw [List.getElem?_set_ne hvi]
    exact hi
  refine ok_comp (n := l.length) (fun j => (l.map t).getD j .hole) (fun j => (l[j]?).bind g) (by unfold lim; omega) (okV_c h1) ?_ ?_
  · rw [oi_v, hi, SM_some, ss_lst, SM_some]
    refine ⟨rfl, fun j hj => by simp [itm, hk, hj], by simp [itm, hk], fun j hj => ?_⟩
    rw [sb_one]
    have hm := List.getElem_mem hj
    have e1 : (l.map t).getD j .hole = t l[j] := by simp [hj]
    rw [e1, ifx_slot]
    refine ⟨by rw [ct_cons, hf]; simp [hvi], ht _ hm, by simp [kills, hv], ?_⟩
    simp only [kills, List.foldl_cons, List.foldl_nil, set_set, List.getElem?_eq_getElem hj, Option.bind_some]
    exact hs _ hm
  · rw [range_bind]
    exact hQ
theorem comp_slot {α : Type} {v i : Nat} {elt : Xp} {o : Bool} {t : α → D} {l : List α} (f : α → D) (hn : l.length ≤ 1000000) (h1 : okV v fx env = true) (hi : env[i]? = some (.nd .lst o (l.map t))) (hvi : v ≠ i) (ht : ∀ a ∈ l, fz (t a) = true)
    (hs : ∀ a ∈ l, OK NX (fun y e3 => isHole y = false ∧ f a = y ∧ e3.set v .hole = env.set v .hole) (ev G elt (i :: fx) (env.set v (t a))))
    (hQ : Q (.nd .lst true (l.map f)) env) : OK X Q (ev G (.comp (.one v) .seq [.v i] [] elt [v]) fx env) := by
  obtain ⟨hv, hf⟩ := okV_lt h1
  have hk : (kills [v] env)[i]? = some (.nd .lst o (l.map t)) := by
    simp only [kills, List.foldl_cons, List.foldl_nil]
    rw [List.getElem?_set_ne hvi]
    exact hi
  refine ok_comp (n := l.length) (fun j => (l.map t).getD j .hole) (fun j => some ((l.map f).getD j .hole)) (by unfold lim; omega) (okV_c h1) ?_ ?_
  · rw [oi_v, hi, SM_some, ss_lst, SM_some]
    refine ⟨rfl, fun j hj => by simp [itm, hk, hj], by simp [itm, hk], fun j hj => ?_⟩
    rw [sb_one]
    have hm := List.getElem_mem hj
    have e1 : (l.map t).getD j .hole = t l[j] := by simp [hj]
    have e2 : (l.map f).getD j .hole = f l[j] := by simp [hj]
    rw [e1, e2, ifx_slot]
    refine ⟨by rw [ct_cons, hf]; simp [hvi], ht _ hm, by simp [kills, hv], ?_⟩
    simp only [kills, List.foldl_cons, List.foldl_nil, set_set, evC, OK_ok, BR_bl, if_true, Option.some.injEq]
    exact hs _ hm
  · have e2 : (List.range l.length).filterMap (fun j => some ((l.map f).getD j .hole)) = l.map f := by
      rw [List.filterMap_eq_map']
      apply List.ext_getElem?
      intro m
      by_cases hm : m < l.length <;> simp [hm]
    rw [e2]
    exact hQ
end
end Wap
set_option Elab.async false
set_option linter.all false
set_option maxRecDepth 100000
namespace Wap
/-- go -/
def d14 : Dfn := ⟨3, 5, [0, 1, 2],
  [.asg 3 (.c (.str [])),
  .fors (.one 4) .rng1 [(.pr .len [(.v 0)])]
   [.ife (.or (.pr .eq [(.pr .idx [(.v 0), (.v 4)]), (.pr .idx [(.v 1), (.v 4)])]) (.pr .eq [(.pr .idx [(.v 0), (.v 4)]), (.pr .idx [(.v 2), (.v 4)])]))
     [.aug 3 (.pr .idx [(.v 0), (.v 4)])]
     [.aug 3 (.pr .idx [(.v 1), (.v 4)])]],
  .ret (.v 3)]⟩
/-- differ -/
def d15 : Dfn := ⟨2, 3, [0, 1],
  [.ret (.comp (.one 2) .rng1 [(.pr .len [(.v 0)])] [(.pr .ne [(.pr .idx [(.v 0), (.v 2)]), (.pr .idx [(.v 1), (.v 2)])])] (.v 2) [2])]⟩
/-- matches -/
def d16 : Dfn := ⟨2, 3, [0, 1],
  [.fors (.one 2) .rng1 [(.pr .len [(.v 0)])]
   [.ife (.and (.pr .ne [(.pr .idx [(.v 1), (.v 2)]), (.g "OPEN" (.str [45]))]) (.pr .ne [(.pr .idx [(.v 1), (.v 2)]), (.pr .idx [(.v 0), (.v 2)])]))
     [.ret (.c (.bl false))]
     []],
  .ret (.c (.bl true))]⟩
/-- _law_go -/
def d17 : Dfn := ⟨3, 5, [0, 1, 2],
  [.asg 3 (.c (.str [])),
  .fors (.one 4) .rng1 [(.pr .len [(.v 0)])]
   [.asg 3 (.pr .add [(.v 3), (.ite (.pr .eq [(.pr .idx [(.v 1), (.v 4)]), (.pr .idx [(.v 2), (.v 4)])]) (.pr .idx [(.v 1), (.v 4)]) (.pr .idx [(.v 0), (.v 4)]))])],
  .ret (.v 3)]⟩
/-- _law_pattern -/
def d18 : Dfn := ⟨2, 4, [0],
  [.asg 2 (.c (.str [])),
  .fors (.one 3) .rng1 [(.pr .len [(.v 0)])]
   [.asg 2 (.pr .add [(.v 2), (.ite (.pr .ne [(.pr .mod [(.v 1), (.c (.int 3))]), (.c (.int 0))]) (.c (.str [45])) (.pr .idx [(.v 0), (.v 3)]))]),
    .asg 1 (.pr .fdiv [(.v 1), (.c (.int 3))])],
  .ret (.v 2)]⟩
/-- _law_matches -/
def d19 : Dfn := ⟨2, 3, [0, 1],
  [.ret (.pr .all [(.comp (.one 2) .rng1 [(.pr .len [(.v 1)])] [] (.pr .inn [(.pr .idx [(.v 1), (.v 2)]), (.tup [(.c (.str [45])), (.pr .idx [(.v 0), (.v 2)])])]) [2])])]⟩
/-- law -/
def d20 : Dfn := ⟨1, 11, [],
  [.asg 0 (.fz (.pr .slB [(.v 0), (.c (.int 63))])),
  .asg 1 (.fz (.call 4 [(.fz (.call 1 [(.v 0), (.c (.int 0))]))])),
  .asg 2 (.fz (.call 10 [(.fz (.pr .add [(.pr .slA [(.v 0), (.c (.int 2))]), (.lst [(.c (.int 3)), (.c (.int 5))])])), (.v 1), (.fz (.call 1 [(.v 0), (.c (.int 1))]))])),
  .fors (.one 3) .rng1 [(.pr .len [(.v 2)])]
   [.asg 4 (.fz (.call 2 [(.pr .add [(.call 1 [(.v 0), (.pr .add [(.c (.int 2)), (.v 3)])]), (.c (.int 3))]), (.fz (.lst [(.c (.int 67)), (.c (.int 71)), (.c (.int 531441))]))])),
    .asg 5 (.pr .idx [(.v 2), (.v 3)]),
    .asg 6 (.pr .idx [(.v 2), (.pr .mod [(.pr .idx [(.v 4), (.c (.int 0))]), (.pr .len [(.v 2)])])]),
    .asg 7 (.pr .idx [(.v 2), (.pr .mod [(.pr .idx [(.v 4), (.c (.int 1))]), (.pr .len [(.v 2)])])]),
    .asg 8 (.fz (.call 17 [(.v 5), (.v 6), (.v 7)])),
    .ife (.not (.call 3 [(.fz (.lst [(.fz (.call 14 [(.v 5), (.v 6), (.v 7)])), (.fz (.call 14 [(.v 6), (.v 7), (.v 5)]))])), (.fz (.lst [(.v 8), (.v 8)]))]))
     [.ret (.c (.bl false))]
     [],
    .ife (.not (.call 3 [(.fz (.lst [(.fz (.call 14 [(.v 7), (.v 5), (.v 6)])), (.fz (.call 14 [(.v 6), (.v 5), (.v 7)]))])), (.fz (.lst [(.v 8), (.v 8)]))]))
     [.ret (.c (.bl false))]
     [],
    .ife (.not (.call 3 [(.fz (.call 15 [(.v 5), (.v 6)])), (.fz (.comp (.one 10) .rng1 [(.v 1)] [(.pr .ne [(.pr .idx [(.v 5), (.v 10)]), (.pr .idx [(.v 6), (.v 10)])])] (.v 10) [10]))]))
     [.ret (.c (.bl false))]
     [],
    .asg 9 (.fz (.call 18 [(.v 7), (.pr .idx [(.v 4), (.c (.int 2))])])),
    .ife (.not (.call 3 [(.fz (.call 16 [(.v 5), (.v 9)])), (.fz (.call 19 [(.v 5), (.v 9)]))]))
     [.ret (.c (.bl false))]
     [],
    .ife (.not (.call 3 [(.fz (.lst [(.fz (.call 16 [(.v 7), (.v 9)])), (.fz (.call 16 [(.v 5), (.pr .mul [(.c (.str [45])), (.v 1)])]))])), (.fz (.lst [(.c (.bl true)), (.c (.bl true))]))]))
     [.ret (.c (.bl false))]
     []],
  .ret (.c (.bl true))]⟩
end Wap
set_option Elab.async false
set_option linter.all false
set_option maxRecDepth 100000
set_option maxHeartbeats 400000
/-! S13: go, differ, matches, by the program and by the law. -/
namespace Wap
open PySem L2
def goC (x y z : Nat) : Nat := if x = y ∨ x = z then x else y
def goS (a b c : List Nat) : List Nat := (List.range a.length).map fun k => goC (ch a k) (ch b k) (ch c k)
def difL (a b : List Nat) : List Nat := (List.range a.length).filter fun k => !decide (ch a k = ch b k)
def matS (a p : List Nat) : Bool := (List.range a.length).all fun k => decide (ch p k = 45) || decide (ch p k = ch a k)
theorem range_snoc {β : Type} (f : Nat → β) (j : Nat) : (List.range (j + 1)).map f = (List.range j).map f ++ [f j] := by
  rw [List.range_succ, List.map_append]; rfl
theorem sgl {a b : Nat} : ([a] = [b]) = (a = b) := by simp
section
variable {P : Nat → Option Dfn} {k : Nat}
theorem go_ok (h : P 14 = some d14) (a b c : List Nat) (n : Nat) (ha : a.length = n) (hb : b.length = n) (hc : c.length = n) (hn : n ≤ 1000) :
    (gam P (k + 1)).run 14 [.str a, .str b, .str c] = .ok (.str (goS a b c)) [.str a, .str b, .str c] := by
  rw [run_eq h rfl (by decide) (by decide)]
  refine fl_of ?_
  show OS _ (execs (gam P k) [_, _, _] [0, 1, 2] [_, _, _, .hole, .hole])
  have l1 : a.length ≤ lim := by unfold lim; omega
  have l2 : b.length ≤ lim := by unfold lim; omega
  have l3 : c.length ≤ lim := by unfold lim; omega
  simp only [ok_c, ok_g, ok_v, ok_mv, ok_pr, ok_fz, ok_and, ok_or, ok_not, NB_bl, ok_ite, ok_chn, ok_lst', ok_tup', ok_call, ok_mut, ok_slcv, oa_nil, oa_v, oa_c, oa_g, oa_pr, oa_mv, oa_and, oa_or, oa_not, oa_fz, oa_chn, oa_slc, oa_ite, oa_call, oa_mut, oa_lst, oa_tup, oa_comp, or_nil, or_rf, or_v, or_c, or_g, or_pr, or_mv, or_and, or_or, or_not, or_fz, or_chn, or_slc, or_ite, or_call, or_mut, or_lst, or_tup, or_comp, reduceCtorEq, os_nil, os_cons, os_asg, os_unp, os_exs, os_aug, os_ife, os_ret, os_retN, os_rse, os_brk, os_cnt, os_pas, os_kil, os_asgP, os_fors, oi_rng1, oi_rng2, oi_v, IN_int, IN2_int, SL_int, OK_ok, OS_nx, OS_rt, OS_bk, OS_ct, SM_some, SM_if, SM_map, SM_bind, BR_bl, Cn.d, List.getElem?_cons_zero, List.getElem?_cons_succ, sl_z, sl_s, hoi, hos, hob, hon, hod, fzi, fzs, fzb, p_add, p_adds, p_sub, p_mul, p_fdiv, p_mod, p_pow, p_neg, p_lt, p_le, p_gt, p_ge, p_eqi, p_eqs, p_nei, p_nes, p_idx, p_lenS, p_lenL, p_lenT, p_lenC, p_abs, p_intb, idxL, idxC, idxT, idxS, Bool.not_false, Bool.not_true, true_and, and_true, decide_eq_true_eq, List.set_cons_zero, List.set_cons_succ, ok_fin, ok_finx, rf_nil, rf_rf, pb_nil, pb_rf, rf_c, pb_c, rf_g, pb_g, rf_pr, pb_pr, rf_mv, pb_mv, rf_and, pb_and, rf_or, pb_or, rf_not, pb_not, rf_fz, pb_fz, rf_chn, pb_chn, rf_slc, pb_slc, rf_ite, pb_ite, rf_call, pb_call, rf_mut, pb_mut, rf_lst, pb_lst, rf_tup, pb_tup, rf_comp, pb_comp, rf_v, pb_v, frz_nd, frz_i, frz_s, frz_b, frz_n, frzs_n, frzs_c, frzs_int, frzs_str, fzd, fzn, nh_nil, nh_cons, ao_nil, ao_cons, ct_nil, ct_cons, List.length_cons, List.length_nil, Nat.reduceAdd, Nat.reduceLeDiff, Nat.reduceBEq, Bool.and_self, Bool.true_and, Bool.and_true, Bool.false_or, Bool.or_false, Bool.or_self, decide_true, decide_false, if_true, if_false, reduceIte, Bool.false_eq_true, at0, at1, at2, at3, Nat.zero_add, Nat.reduceLT, Nat.reduceSub, not_true_eq_false, not_false_eq_true, oi_tup, oi_lst, oi_pr, oi_call, oi_slc, oi_fz, oi_ite, oi_comp, oi_c, oi_g, sq_str, sq_lst, sq_tup, ss_str, ss_lst, ss_scr, ss_tup, al_nil, al_cons, ifx_rng, ifx_fro, ifx_slot, ifx_slotT, isI_int, ne_eq, Int.reduceEq, Int.reduceNeg, Int.reduceLT, Int.reduceLE, l1, small_n (show a.length ≤ 1000000 by omega), Int.toNat_natCast]
  refine loop_rng0 (fun j e => ∃ x4, e = [.str a, .str b, .str c, .str ((List.range j).map fun k => goC (ch a k) (ch b k) (ch c k)), x4]) (by omega) ⟨_, rfl⟩ (fun j e hj he => ?_) (fun e he => ?_)
  · obtain ⟨x4, rfl⟩ := he
    simp only [turn_one, ok_c, ok_g, ok_v, ok_mv, ok_pr, ok_fz, ok_and, ok_or, ok_not, NB_bl, ok_ite, ok_chn, ok_lst', ok_tup', ok_call, ok_mut, ok_slcv, oa_nil, oa_v, oa_c, oa_g, oa_pr, oa_mv, oa_and, oa_or, oa_not, oa_fz, oa_chn, oa_slc, oa_ite, oa_call, oa_mut, oa_lst, oa_tup, oa_comp, or_nil, or_rf, or_v, or_c, or_g, or_pr, or_mv, or_and, or_or, or_not, or_fz, or_chn, or_slc, or_ite, or_call, or_mut, or_lst, or_tup, or_comp, reduceCtorEq, os_nil, os_cons, os_asg, os_unp, os_exs, os_aug, os_ife, os_ret, os_retN, os_rse, os_brk, os_cnt, os_pas, os_kil, os_asgP, os_fors, oi_rng1, oi_rng2, oi_v, IN_int, IN2_int, SL_int, OK_ok, OS_nx, OS_rt, OS_bk, OS_ct, SM_some, SM_if, SM_map, SM_bind, BR_bl, Cn.d, List.getElem?_cons_zero, List.getElem?_cons_succ, sl_z, sl_s, hoi, hos, hob, hon, hod, fzi, fzs, fzb, p_add, p_adds, p_sub, p_mul, p_fdiv, p_mod, p_pow, p_neg, p_lt, p_le, p_gt, p_ge, p_eqi, p_eqs, p_nei, p_nes, p_idx, p_lenS, p_lenL, p_lenT, p_lenC, p_abs, p_intb, idxL, idxC, idxT, idxS, Bool.not_false, Bool.not_true, true_and, and_true, decide_eq_true_eq, List.set_cons_zero, List.set_cons_succ, ok_fin, ok_finx, rf_nil, rf_rf, pb_nil, pb_rf, rf_c, pb_c, rf_g, pb_g, rf_pr, pb_pr, rf_mv, pb_mv, rf_and, pb_and, rf_or, pb_or, rf_not, pb_not, rf_fz, pb_fz, rf_chn, pb_chn, rf_slc, pb_slc, rf_ite, pb_ite, rf_call, pb_call, rf_mut, pb_mut, rf_lst, pb_lst, rf_tup, pb_tup, rf_comp, pb_comp, rf_v, pb_v, frz_nd, frz_i, frz_s, frz_b, frz_n, frzs_n, frzs_c, frzs_int, frzs_str, fzd, fzn, nh_nil, nh_cons, ao_nil, ao_cons, ct_nil, ct_cons, List.length_cons, List.length_nil, Nat.reduceAdd, Nat.reduceLeDiff, Nat.reduceBEq, Bool.and_self, Bool.true_and, Bool.and_true, Bool.false_or, Bool.or_false, Bool.or_self, decide_true, decide_false, if_true, if_false, reduceIte, Bool.false_eq_true, at0, at1, at2, at3, Nat.zero_add, Nat.reduceLT, Nat.reduceSub, not_true_eq_false, not_false_eq_true, oi_tup, oi_lst, oi_pr, oi_call, oi_slc, oi_fz, oi_ite, oi_comp, oi_c, oi_g, sq_str, sq_lst, sq_tup, ss_str, ss_lst, ss_scr, ss_tup, al_nil, al_cons, ifx_rng, ifx_fro, ifx_slot, ifx_slotT, isI_int, ne_eq, Int.reduceEq, Int.reduceNeg, Int.reduceLT, Int.reduceLE, os_augP, AU_str, atC hj, atC (show j < b.length by omega), atC (show j < c.length by omega), l1, l2, l3, sgl, List.length_map, List.length_range]
    have hj2 : j + 1 ≤ lim := by unfold lim; omega
    simp only [hj2, range_snoc, goC]
    by_cases c1 : ch a j = ch b j
    · simp [c1]
    · by_cases c2 : ch a j = ch c j <;> simp [c1, c2]
  · obtain ⟨x4, rfl⟩ := he
    simp only [ok_c, ok_g, ok_v, ok_mv, ok_pr, ok_fz, ok_and, ok_or, ok_not, NB_bl, ok_ite, ok_chn, ok_lst', ok_tup', ok_call, ok_mut, ok_slcv, oa_nil, oa_v, oa_c, oa_g, oa_pr, oa_mv, oa_and, oa_or, oa_not, oa_fz, oa_chn, oa_slc, oa_ite, oa_call, oa_mut, oa_lst, oa_tup, oa_comp, or_nil, or_rf, or_v, or_c, or_g, or_pr, or_mv, or_and, or_or, or_not, or_fz, or_chn, or_slc, or_ite, or_call, or_mut, or_lst, or_tup, or_comp, reduceCtorEq, os_nil, os_cons, os_asg, os_unp, os_exs, os_aug, os_ife, os_ret, os_retN, os_rse, os_brk, os_cnt, os_pas, os_kil, os_asgP, os_fors, oi_rng1, oi_rng2, oi_v, IN_int, IN2_int, SL_int, OK_ok, OS_nx, OS_rt, OS_bk, OS_ct, SM_some, SM_if, SM_map, SM_bind, BR_bl, Cn.d, List.getElem?_cons_zero, List.getElem?_cons_succ, sl_z, sl_s, hoi, hos, hob, hon, hod, fzi, fzs, fzb, p_add, p_adds, p_sub, p_mul, p_fdiv, p_mod, p_pow, p_neg, p_lt, p_le, p_gt, p_ge, p_eqi, p_eqs, p_nei, p_nes, p_idx, p_lenS, p_lenL, p_lenT, p_lenC, p_abs, p_intb, idxL, idxC, idxT, idxS, Bool.not_false, Bool.not_true, true_and, and_true, decide_eq_true_eq, List.set_cons_zero, List.set_cons_succ, ok_fin, ok_finx, rf_nil, rf_rf, pb_nil, pb_rf, rf_c, pb_c, rf_g, pb_g, rf_pr, pb_pr, rf_mv, pb_mv, rf_and, pb_and, rf_or, pb_or, rf_not, pb_not, rf_fz, pb_fz, rf_chn, pb_chn, rf_slc, pb_slc, rf_ite, pb_ite, rf_call, pb_call, rf_mut, pb_mut, rf_lst, pb_lst, rf_tup, pb_tup, rf_comp, pb_comp, rf_v, pb_v, frz_nd, frz_i, frz_s, frz_b, frz_n, frzs_n, frzs_c, frzs_int, frzs_str, fzd, fzn, nh_nil, nh_cons, ao_nil, ao_cons, ct_nil, ct_cons, List.length_cons, List.length_nil, Nat.reduceAdd, Nat.reduceLeDiff, Nat.reduceBEq, Bool.and_self, Bool.true_and, Bool.and_true, Bool.false_or, Bool.or_false, Bool.or_self, decide_true, decide_false, if_true, if_false, reduceIte, Bool.false_eq_true, at0, at1, at2, at3, Nat.zero_add, Nat.reduceLT, Nat.reduceSub, not_true_eq_false, not_false_eq_true, oi_tup, oi_lst, oi_pr, oi_call, oi_slc, oi_fz, oi_ite, oi_comp, oi_c, oi_g, sq_str, sq_lst, sq_tup, ss_str, ss_lst, ss_scr, ss_tup, al_nil, al_cons, ifx_rng, ifx_fro, ifx_slot, ifx_slotT, isI_int, ne_eq, Int.reduceEq, Int.reduceNeg, Int.reduceLT, Int.reduceLE]
    simp [d14, outE, goS]
theorem lgo_ok (h : P 17 = some d17) (a b c : List Nat) (n : Nat) (ha : a.length = n) (hb : b.length = n) (hc : c.length = n) (hn : n ≤ 1000) :
    (gam P (k + 1)).run 17 [.str a, .str b, .str c] = .ok (.str ((List.range a.length).map fun k => if ch b k = ch c k then ch b k else ch a k)) [.str a, .str b, .str c] := by
  rw [run_eq h rfl (by decide) (by decide)]
  refine fl_of ?_
  show OS _ (execs (gam P k) [_, _, _] [0, 1, 2] [_, _, _, .hole, .hole])
  have l1 : a.length ≤ lim := by unfold lim; omega
  have l2 : b.length ≤ lim := by unfold lim; omega
  have l3 : c.length ≤ lim := by unfold lim; omega
  simp only [ok_c, ok_g, ok_v, ok_mv, ok_pr, ok_fz, ok_and, ok_or, ok_not, NB_bl, ok_ite, ok_chn, ok_lst', ok_tup', ok_call, ok_mut, ok_slcv, oa_nil, oa_v, oa_c, oa_g, oa_pr, oa_mv, oa_and, oa_or, oa_not, oa_fz, oa_chn, oa_slc, oa_ite, oa_call, oa_mut, oa_lst, oa_tup, oa_comp, or_nil, or_rf, or_v, or_c, or_g, or_pr, or_mv, or_and, or_or, or_not, or_fz, or_chn, or_slc, or_ite, or_call, or_mut, or_lst, or_tup, or_comp, reduceCtorEq, os_nil, os_cons, os_asg, os_unp, os_exs, os_aug, os_ife, os_ret, os_retN, os_rse, os_brk, os_cnt, os_pas, os_kil, os_asgP, os_fors, oi_rng1, oi_rng2, oi_v, IN_int, IN2_int, SL_int, OK_ok, OS_nx, OS_rt, OS_bk, OS_ct, SM_some, SM_if, SM_map, SM_bind, BR_bl, Cn.d, List.getElem?_cons_zero, List.getElem?_cons_succ, sl_z, sl_s, hoi, hos, hob, hon, hod, fzi, fzs, fzb, p_add, p_adds, p_sub, p_mul, p_fdiv, p_mod, p_pow, p_neg, p_lt, p_le, p_gt, p_ge, p_eqi, p_eqs, p_nei, p_nes, p_idx, p_lenS, p_lenL, p_lenT, p_lenC, p_abs, p_intb, idxL, idxC, idxT, idxS, Bool.not_false, Bool.not_true, true_and, and_true, decide_eq_true_eq, List.set_cons_zero, List.set_cons_succ, ok_fin, ok_finx, rf_nil, rf_rf, pb_nil, pb_rf, rf_c, pb_c, rf_g, pb_g, rf_pr, pb_pr, rf_mv, pb_mv, rf_and, pb_and, rf_or, pb_or, rf_not, pb_not, rf_fz, pb_fz, rf_chn, pb_chn, rf_slc, pb_slc, rf_ite, pb_ite, rf_call, pb_call, rf_mut, pb_mut, rf_lst, pb_lst, rf_tup, pb_tup, rf_comp, pb_comp, rf_v, pb_v, frz_nd, frz_i, frz_s, frz_b, frz_n, frzs_n, frzs_c, frzs_int, frzs_str, fzd, fzn, nh_nil, nh_cons, ao_nil, ao_cons, ct_nil, ct_cons, List.length_cons, List.length_nil, Nat.reduceAdd, Nat.reduceLeDiff, Nat.reduceBEq, Bool.and_self, Bool.true_and, Bool.and_true, Bool.false_or, Bool.or_false, Bool.or_self, decide_true, decide_false, if_true, if_false, reduceIte, Bool.false_eq_true, at0, at1, at2, at3, Nat.zero_add, Nat.reduceLT, Nat.reduceSub, not_true_eq_false, not_false_eq_true, oi_tup, oi_lst, oi_pr, oi_call, oi_slc, oi_fz, oi_ite, oi_comp, oi_c, oi_g, sq_str, sq_lst, sq_tup, ss_str, ss_lst, ss_scr, ss_tup, al_nil, al_cons, ifx_rng, ifx_fro, ifx_slot, ifx_slotT, isI_int, ne_eq, Int.reduceEq, Int.reduceNeg, Int.reduceLT, Int.reduceLE, l1, small_n (show a.length ≤ 1000000 by omega), Int.toNat_natCast]
  refine loop_rng0 (fun j e => ∃ x4, e = [.str a, .str b, .str c, .str ((List.range j).map fun k => if ch b k = ch c k then ch b k else ch a k), x4]) (by omega) ⟨_, rfl⟩ (fun j e hj he => ?_) (fun e he => ?_)
  · obtain ⟨x4, rfl⟩ := he
    simp only [turn_one, ok_c, ok_g, ok_v, ok_mv, ok_pr, ok_fz, ok_and, ok_or, ok_not, NB_bl, ok_ite, ok_chn, ok_lst', ok_tup', ok_call, ok_mut, ok_slcv, oa_nil, oa_v, oa_c, oa_g, oa_pr, oa_mv, oa_and, oa_or, oa_not, oa_fz, oa_chn, oa_slc, oa_ite, oa_call, oa_mut, oa_lst, oa_tup, oa_comp, or_nil, or_rf, or_v, or_c, or_g, or_pr, or_mv, or_and, or_or, or_not, or_fz, or_chn, or_slc, or_ite, or_call, or_mut, or_lst, or_tup, or_comp, reduceCtorEq, os_nil, os_cons, os_asg, os_unp, os_exs, os_aug, os_ife, os_ret, os_retN, os_rse, os_brk, os_cnt, os_pas, os_kil, os_asgP, os_fors, oi_rng1, oi_rng2, oi_v, IN_int, IN2_int, SL_int, OK_ok, OS_nx, OS_rt, OS_bk, OS_ct, SM_some, SM_if, SM_map, SM_bind, BR_bl, Cn.d, List.getElem?_cons_zero, List.getElem?_cons_succ, sl_z, sl_s, hoi, hos, hob, hon, hod, fzi, fzs, fzb, p_add, p_adds, p_sub, p_mul, p_fdiv, p_mod, p_pow, p_neg, p_lt, p_le, p_gt, p_ge, p_eqi, p_eqs, p_nei, p_nes, p_idx, p_lenS, p_lenL, p_lenT, p_lenC, p_abs, p_intb, idxL, idxC, idxT, idxS, Bool.not_false, Bool.not_true, true_and, and_true, decide_eq_true_eq, List.set_cons_zero, List.set_cons_succ, ok_fin, ok_finx, rf_nil, rf_rf, pb_nil, pb_rf, rf_c, pb_c, rf_g, pb_g, rf_pr, pb_pr, rf_mv, pb_mv, rf_and, pb_and, rf_or, pb_or, rf_not, pb_not, rf_fz, pb_fz, rf_chn, pb_chn, rf_slc, pb_slc, rf_ite, pb_ite, rf_call, pb_call, rf_mut, pb_mut, rf_lst, pb_lst, rf_tup, pb_tup, rf_comp, pb_comp, rf_v, pb_v, frz_nd, frz_i, frz_s, frz_b, frz_n, frzs_n, frzs_c, frzs_int, frzs_str, fzd, fzn, nh_nil, nh_cons, ao_nil, ao_cons, ct_nil, ct_cons, List.length_cons, List.length_nil, Nat.reduceAdd, Nat.reduceLeDiff, Nat.reduceBEq, Bool.and_self, Bool.true_and, Bool.and_true, Bool.false_or, Bool.or_false, Bool.or_self, decide_true, decide_false, if_true, if_false, reduceIte, Bool.false_eq_true, at0, at1, at2, at3, Nat.zero_add, Nat.reduceLT, Nat.reduceSub, not_true_eq_false, not_false_eq_true, oi_tup, oi_lst, oi_pr, oi_call, oi_slc, oi_fz, oi_ite, oi_comp, oi_c, oi_g, sq_str, sq_lst, sq_tup, ss_str, ss_lst, ss_scr, ss_tup, al_nil, al_cons, ifx_rng, ifx_fro, ifx_slot, ifx_slotT, isI_int, ne_eq, Int.reduceEq, Int.reduceNeg, Int.reduceLT, Int.reduceLE, atC hj, atC (show j < b.length by omega), atC (show j < c.length by omega), l1, l2, l3, sgl, List.length_map, List.length_range]
    have hj2 : j + 1 ≤ lim := by unfold lim; omega
    simp only [hj2, range_snoc]
    by_cases c1 : ch b j = ch c j <;> simp [c1]
  · obtain ⟨x4, rfl⟩ := he
    simp only [ok_c, ok_g, ok_v, ok_mv, ok_pr, ok_fz, ok_and, ok_or, ok_not, NB_bl, ok_ite, ok_chn, ok_lst', ok_tup', ok_call, ok_mut, ok_slcv, oa_nil, oa_v, oa_c, oa_g, oa_pr, oa_mv, oa_and, oa_or, oa_not, oa_fz, oa_chn, oa_slc, oa_ite, oa_call, oa_mut, oa_lst, oa_tup, oa_comp, or_nil, or_rf, or_v, or_c, or_g, or_pr, or_mv, or_and, or_or, or_not, or_fz, or_chn, or_slc, or_ite, or_call, or_mut, or_lst, or_tup, or_comp, reduceCtorEq, os_nil, os_cons, os_asg, os_unp, os_exs, os_aug, os_ife, os_ret, os_retN, os_rse, os_brk, os_cnt, os_pas, os_kil, os_asgP, os_fors, oi_rng1, oi_rng2, oi_v, IN_int, IN2_int, SL_int, OK_ok, OS_nx, OS_rt, OS_bk, OS_ct, SM_some, SM_if, SM_map, SM_bind, BR_bl, Cn.d, List.getElem?_cons_zero, List.getElem?_cons_succ, sl_z, sl_s, hoi, hos, hob, hon, hod, fzi, fzs, fzb, p_add, p_adds, p_sub, p_mul, p_fdiv, p_mod, p_pow, p_neg, p_lt, p_le, p_gt, p_ge, p_eqi, p_eqs, p_nei, p_nes, p_idx, p_lenS, p_lenL, p_lenT, p_lenC, p_abs, p_intb, idxL, idxC, idxT, idxS, Bool.not_false, Bool.not_true, true_and, and_true, decide_eq_true_eq, List.set_cons_zero, List.set_cons_succ, ok_fin, ok_finx, rf_nil, rf_rf, pb_nil, pb_rf, rf_c, pb_c, rf_g, pb_g, rf_pr, pb_pr, rf_mv, pb_mv, rf_and, pb_and, rf_or, pb_or, rf_not, pb_not, rf_fz, pb_fz, rf_chn, pb_chn, rf_slc, pb_slc, rf_ite, pb_ite, rf_call, pb_call, rf_mut, pb_mut, rf_lst, pb_lst, rf_tup, pb_tup, rf_comp, pb_comp, rf_v, pb_v, frz_nd, frz_i, frz_s, frz_b, frz_n, frzs_n, frzs_c, frzs_int, frzs_str, fzd, fzn, nh_nil, nh_cons, ao_nil, ao_cons, ct_nil, ct_cons, List.length_cons, List.length_nil, Nat.reduceAdd, Nat.reduceLeDiff, Nat.reduceBEq, Bool.and_self, Bool.true_and, Bool.and_true, Bool.false_or, Bool.or_false, Bool.or_self, decide_true, decide_false, if_true, if_false, reduceIte, Bool.false_eq_true, at0, at1, at2, at3, Nat.zero_add, Nat.reduceLT, Nat.reduceSub, not_true_eq_false, not_false_eq_true, oi_tup, oi_lst, oi_pr, oi_call, oi_slc, oi_fz, oi_ite, oi_comp, oi_c, oi_g, sq_str, sq_lst, sq_tup, ss_str, ss_lst, ss_scr, ss_tup, al_nil, al_cons, ifx_rng, ifx_fro, ifx_slot, ifx_slotT, isI_int, ne_eq, Int.reduceEq, Int.reduceNeg, Int.reduceLT, Int.reduceLE]
    simp [d17, outE]
theorem differ_ok (h : P 15 = some d15) (a b : List Nat) (hb : b.length = a.length) (hn : a.length ≤ 1000) :
    (gam P (k + 1)).run 15 [.str a, .str b] = .ok (.nd .lst true ((difL a b).map fun j => .int (j : Nat))) [.str a, .str b] := by
  rw [run_eq h rfl (by decide) (by decide)]
  refine fl_of ?_
  show OS _ (execs (gam P k) [_] [0, 1] [_, _, .hole])
  have l1 : a.length ≤ lim := by unfold lim; omega
  have l2 : b.length ≤ lim := by unfold lim; omega
  simp only [ok_c, ok_g, ok_v, ok_mv, ok_pr, ok_fz, ok_and, ok_or, ok_not, NB_bl, ok_ite, ok_chn, ok_lst', ok_tup', ok_call, ok_mut, ok_slcv, oa_nil, oa_v, oa_c, oa_g, oa_pr, oa_mv, oa_and, oa_or, oa_not, oa_fz, oa_chn, oa_slc, oa_ite, oa_call, oa_mut, oa_lst, oa_tup, oa_comp, or_nil, or_rf, or_v, or_c, or_g, or_pr, or_mv, or_and, or_or, or_not, or_fz, or_chn, or_slc, or_ite, or_call, or_mut, or_lst, or_tup, or_comp, reduceCtorEq, os_nil, os_cons, os_asg, os_unp, os_exs, os_aug, os_ife, os_ret, os_retN, os_rse, os_brk, os_cnt, os_pas, os_kil, os_asgP, os_fors, oi_rng1, oi_rng2, oi_v, IN_int, IN2_int, SL_int, OK_ok, OS_nx, OS_rt, OS_bk, OS_ct, SM_some, SM_if, SM_map, SM_bind, BR_bl, Cn.d, List.getElem?_cons_zero, List.getElem?_cons_succ, sl_z, sl_s, hoi, hos, hob, hon, hod, fzi, fzs, fzb, p_add, p_adds, p_sub, p_mul, p_fdiv, p_mod, p_pow, p_neg, p_lt, p_le, p_gt, p_ge, p_eqi, p_eqs, p_nei, p_nes, p_idx, p_lenS, p_lenL, p_lenT, p_lenC, p_abs, p_intb, idxL, idxC, idxT, idxS, Bool.not_false, Bool.not_true, true_and, and_true, decide_eq_true_eq, List.set_cons_zero, List.set_cons_succ, ok_fin, ok_finx, rf_nil, rf_rf, pb_nil, pb_rf, rf_c, pb_c, rf_g, pb_g, rf_pr, pb_pr, rf_mv, pb_mv, rf_and, pb_and, rf_or, pb_or, rf_not, pb_not, rf_fz, pb_fz, rf_chn, pb_chn, rf_slc, pb_slc, rf_ite, pb_ite, rf_call, pb_call, rf_mut, pb_mut, rf_lst, pb_lst, rf_tup, pb_tup, rf_comp, pb_comp, rf_v, pb_v, frz_nd, frz_i, frz_s, frz_b, frz_n, frzs_n, frzs_c, frzs_int, frzs_str, fzd, fzn, nh_nil, nh_cons, ao_nil, ao_cons, ct_nil, ct_cons, List.length_cons, List.length_nil, Nat.reduceAdd, Nat.reduceLeDiff, Nat.reduceBEq, Bool.and_self, Bool.true_and, Bool.and_true, Bool.false_or, Bool.or_false, Bool.or_self, decide_true, decide_false, if_true, if_false, reduceIte, Bool.false_eq_true, at0, at1, at2, at3, Nat.zero_add, Nat.reduceLT, Nat.reduceSub, not_true_eq_false, not_false_eq_true, oi_tup, oi_lst, oi_pr, oi_call, oi_slc, oi_fz, oi_ite, oi_comp, oi_c, oi_g, sq_str, sq_lst, sq_tup, ss_str, ss_lst, ss_scr, ss_tup, al_nil, al_cons, ifx_rng, ifx_fro, ifx_slot, ifx_slotT, isI_int, ne_eq, Int.reduceEq, Int.reduceNeg, Int.reduceLT, Int.reduceLE]
  refine comp_rngC (n := a.length) (fun j => if ch a j = ch b j then none else some (.int j)) (by omega) rfl ?_ (fun j hj => ?_) ?_
  · simp only [ok_c, ok_g, ok_v, ok_mv, ok_pr, ok_fz, ok_and, ok_or, ok_not, NB_bl, ok_ite, ok_chn, ok_lst', ok_tup', ok_call, ok_mut, ok_slcv, oa_nil, oa_v, oa_c, oa_g, oa_pr, oa_mv, oa_and, oa_or, oa_not, oa_fz, oa_chn, oa_slc, oa_ite, oa_call, oa_mut, oa_lst, oa_tup, oa_comp, or_nil, or_rf, or_v, or_c, or_g, or_pr, or_mv, or_and, or_or, or_not, or_fz, or_chn, or_slc, or_ite, or_call, or_mut, or_lst, or_tup, or_comp, reduceCtorEq, os_nil, os_cons, os_asg, os_unp, os_exs, os_aug, os_ife, os_ret, os_retN, os_rse, os_brk, os_cnt, os_pas, os_kil, os_asgP, os_fors, oi_rng1, oi_rng2, oi_v, IN_int, IN2_int, SL_int, OK_ok, OS_nx, OS_rt, OS_bk, OS_ct, SM_some, SM_if, SM_map, SM_bind, BR_bl, Cn.d, List.getElem?_cons_zero, List.getElem?_cons_succ, sl_z, sl_s, hoi, hos, hob, hon, hod, fzi, fzs, fzb, p_add, p_adds, p_sub, p_mul, p_fdiv, p_mod, p_pow, p_neg, p_lt, p_le, p_gt, p_ge, p_eqi, p_eqs, p_nei, p_nes, p_idx, p_lenS, p_lenL, p_lenT, p_lenC, p_abs, p_intb, idxL, idxC, idxT, idxS, Bool.not_false, Bool.not_true, true_and, and_true, decide_eq_true_eq, List.set_cons_zero, List.set_cons_succ, ok_fin, ok_finx, rf_nil, rf_rf, pb_nil, pb_rf, rf_c, pb_c, rf_g, pb_g, rf_pr, pb_pr, rf_mv, pb_mv, rf_and, pb_and, rf_or, pb_or, rf_not, pb_not, rf_fz, pb_fz, rf_chn, pb_chn, rf_slc, pb_slc, rf_ite, pb_ite, rf_call, pb_call, rf_mut, pb_mut, rf_lst, pb_lst, rf_tup, pb_tup, rf_comp, pb_comp, rf_v, pb_v, frz_nd, frz_i, frz_s, frz_b, frz_n, frzs_n, frzs_c, frzs_int, frzs_str, fzd, fzn, nh_nil, nh_cons, ao_nil, ao_cons, ct_nil, ct_cons, List.length_cons, List.length_nil, Nat.reduceAdd, Nat.reduceLeDiff, Nat.reduceBEq, Bool.and_self, Bool.true_and, Bool.and_true, Bool.false_or, Bool.or_false, Bool.or_self, decide_true, decide_false, if_true, if_false, reduceIte, Bool.false_eq_true, at0, at1, at2, at3, Nat.zero_add, Nat.reduceLT, Nat.reduceSub, not_true_eq_false, not_false_eq_true, oi_tup, oi_lst, oi_pr, oi_call, oi_slc, oi_fz, oi_ite, oi_comp, oi_c, oi_g, sq_str, sq_lst, sq_tup, ss_str, ss_lst, ss_scr, ss_tup, al_nil, al_cons, ifx_rng, ifx_fro, ifx_slot, ifx_slotT, isI_int, ne_eq, Int.reduceEq, Int.reduceNeg, Int.reduceLT, Int.reduceLE, l1]
  · simp only [ok_c, ok_g, ok_v, ok_mv, ok_pr, ok_fz, ok_and, ok_or, ok_not, NB_bl, ok_ite, ok_chn, ok_lst', ok_tup', ok_call, ok_mut, ok_slcv, oa_nil, oa_v, oa_c, oa_g, oa_pr, oa_mv, oa_and, oa_or, oa_not, oa_fz, oa_chn, oa_slc, oa_ite, oa_call, oa_mut, oa_lst, oa_tup, oa_comp, or_nil, or_rf, or_v, or_c, or_g, or_pr, or_mv, or_and, or_or, or_not, or_fz, or_chn, or_slc, or_ite, or_call, or_mut, or_lst, or_tup, or_comp, reduceCtorEq, os_nil, os_cons, os_asg, os_unp, os_exs, os_aug, os_ife, os_ret, os_retN, os_rse, os_brk, os_cnt, os_pas, os_kil, os_asgP, os_fors, oi_rng1, oi_rng2, oi_v, IN_int, IN2_int, SL_int, OK_ok, OS_nx, OS_rt, OS_bk, OS_ct, SM_some, SM_if, SM_map, SM_bind, BR_bl, Cn.d, List.getElem?_cons_zero, List.getElem?_cons_succ, sl_z, sl_s, hoi, hos, hob, hon, hod, fzi, fzs, fzb, p_add, p_adds, p_sub, p_mul, p_fdiv, p_mod, p_pow, p_neg, p_lt, p_le, p_gt, p_ge, p_eqi, p_eqs, p_nei, p_nes, p_idx, p_lenS, p_lenL, p_lenT, p_lenC, p_abs, p_intb, idxL, idxC, idxT, idxS, Bool.not_false, Bool.not_true, true_and, and_true, decide_eq_true_eq, List.set_cons_zero, List.set_cons_succ, ok_fin, ok_finx, rf_nil, rf_rf, pb_nil, pb_rf, rf_c, pb_c, rf_g, pb_g, rf_pr, pb_pr, rf_mv, pb_mv, rf_and, pb_and, rf_or, pb_or, rf_not, pb_not, rf_fz, pb_fz, rf_chn, pb_chn, rf_slc, pb_slc, rf_ite, pb_ite, rf_call, pb_call, rf_mut, pb_mut, rf_lst, pb_lst, rf_tup, pb_tup, rf_comp, pb_comp, rf_v, pb_v, frz_nd, frz_i, frz_s, frz_b, frz_n, frzs_n, frzs_c, frzs_int, frzs_str, fzd, fzn, nh_nil, nh_cons, ao_nil, ao_cons, ct_nil, ct_cons, List.length_cons, List.length_nil, Nat.reduceAdd, Nat.reduceLeDiff, Nat.reduceBEq, Bool.and_self, Bool.true_and, Bool.and_true, Bool.false_or, Bool.or_false, Bool.or_self, decide_true, decide_false, if_true, if_false, reduceIte, Bool.false_eq_true, at0, at1, at2, at3, Nat.zero_add, Nat.reduceLT, Nat.reduceSub, not_true_eq_false, not_false_eq_true, oi_tup, oi_lst, oi_pr, oi_call, oi_slc, oi_fz, oi_ite, oi_comp, oi_c, oi_g, sq_str, sq_lst, sq_tup, ss_str, ss_lst, ss_scr, ss_tup, al_nil, al_cons, ifx_rng, ifx_fro, ifx_slot, ifx_slotT, isI_int, ne_eq, Int.reduceEq, Int.reduceNeg, Int.reduceLT, Int.reduceLE, atC hj, atC (show j < b.length by omega), l1, l2, sgl]
    by_cases c1 : ch a j = ch b j <;> simp [c1]
  · simp only [ok_c, ok_g, ok_v, ok_mv, ok_pr, ok_fz, ok_and, ok_or, ok_not, NB_bl, ok_ite, ok_chn, ok_lst', ok_tup', ok_call, ok_mut, ok_slcv, oa_nil, oa_v, oa_c, oa_g, oa_pr, oa_mv, oa_and, oa_or, oa_not, oa_fz, oa_chn, oa_slc, oa_ite, oa_call, oa_mut, oa_lst, oa_tup, oa_comp, or_nil, or_rf, or_v, or_c, or_g, or_pr, or_mv, or_and, or_or, or_not, or_fz, or_chn, or_slc, or_ite, or_call, or_mut, or_lst, or_tup, or_comp, reduceCtorEq, os_nil, os_cons, os_asg, os_unp, os_exs, os_aug, os_ife, os_ret, os_retN, os_rse, os_brk, os_cnt, os_pas, os_kil, os_asgP, os_fors, oi_rng1, oi_rng2, oi_v, IN_int, IN2_int, SL_int, OK_ok, OS_nx, OS_rt, OS_bk, OS_ct, SM_some, SM_if, SM_map, SM_bind, BR_bl, Cn.d, List.getElem?_cons_zero, List.getElem?_cons_succ, sl_z, sl_s, hoi, hos, hob, hon, hod, fzi, fzs, fzb, p_add, p_adds, p_sub, p_mul, p_fdiv, p_mod, p_pow, p_neg, p_lt, p_le, p_gt, p_ge, p_eqi, p_eqs, p_nei, p_nes, p_idx, p_lenS, p_lenL, p_lenT, p_lenC, p_abs, p_intb, idxL, idxC, idxT, idxS, Bool.not_false, Bool.not_true, true_and, and_true, decide_eq_true_eq, List.set_cons_zero, List.set_cons_succ, ok_fin, ok_finx, rf_nil, rf_rf, pb_nil, pb_rf, rf_c, pb_c, rf_g, pb_g, rf_pr, pb_pr, rf_mv, pb_mv, rf_and, pb_and, rf_or, pb_or, rf_not, pb_not, rf_fz, pb_fz, rf_chn, pb_chn, rf_slc, pb_slc, rf_ite, pb_ite, rf_call, pb_call, rf_mut, pb_mut, rf_lst, pb_lst, rf_tup, pb_tup, rf_comp, pb_comp, rf_v, pb_v, frz_nd, frz_i, frz_s, frz_b, frz_n, frzs_n, frzs_c, frzs_int, frzs_str, fzd, fzn, nh_nil, nh_cons, ao_nil, ao_cons, ct_nil, ct_cons, List.length_cons, List.length_nil, Nat.reduceAdd, Nat.reduceLeDiff, Nat.reduceBEq, Bool.and_self, Bool.true_and, Bool.and_true, Bool.false_or, Bool.or_false, Bool.or_self, decide_true, decide_false, if_true, if_false, reduceIte, Bool.false_eq_true, at0, at1, at2, at3, Nat.zero_add, Nat.reduceLT, Nat.reduceSub, not_true_eq_false, not_false_eq_true, oi_tup, oi_lst, oi_pr, oi_call, oi_slc, oi_fz, oi_ite, oi_comp, oi_c, oi_g, sq_str, sq_lst, sq_tup, ss_str, ss_lst, ss_scr, ss_tup, al_nil, al_cons, ifx_rng, ifx_fro, ifx_slot, ifx_slotT, isI_int, ne_eq, Int.reduceEq, Int.reduceNeg, Int.reduceLT, Int.reduceLE]
    refine ⟨?_, by simp [d15], by simp [d15, outE]⟩
    congr 1
    unfold difL
    rw [← List.filterMap_eq_filter, List.map_filterMap]
    congr 1
    funext j
    by_cases c1 : ch a j = ch b j <;> simp [c1, Option.guard]
theorem matches_ok (h : P 16 = some d16) (a p : List Nat) (hb : p.length = a.length) (hn : a.length ≤ 1000) :
    (gam P (k + 1)).run 16 [.str a, .str p] = .ok (.bl (matS a p)) [.str a, .str p] := by
  rw [run_eq h rfl (by decide) (by decide)]
  refine fl_of ?_
  show OS _ (execs (gam P k) [_, _] [0, 1] [_, _, .hole])
  have l1 : a.length ≤ lim := by unfold lim; omega
  have l2 : p.length ≤ lim := by unfold lim; omega
  simp only [ok_c, ok_g, ok_v, ok_mv, ok_pr, ok_fz, ok_and, ok_or, ok_not, NB_bl, ok_ite, ok_chn, ok_lst', ok_tup', ok_call, ok_mut, ok_slcv, oa_nil, oa_v, oa_c, oa_g, oa_pr, oa_mv, oa_and, oa_or, oa_not, oa_fz, oa_chn, oa_slc, oa_ite, oa_call, oa_mut, oa_lst, oa_tup, oa_comp, or_nil, or_rf, or_v, or_c, or_g, or_pr, or_mv, or_and, or_or, or_not, or_fz, or_chn, or_slc, or_ite, or_call, or_mut, or_lst, or_tup, or_comp, reduceCtorEq, os_nil, os_cons, os_asg, os_unp, os_exs, os_aug, os_ife, os_ret, os_retN, os_rse, os_brk, os_cnt, os_pas, os_kil, os_asgP, os_fors, oi_rng1, oi_rng2, oi_v, IN_int, IN2_int, SL_int, OK_ok, OS_nx, OS_rt, OS_bk, OS_ct, SM_some, SM_if, SM_map, SM_bind, BR_bl, Cn.d, List.getElem?_cons_zero, List.getElem?_cons_succ, sl_z, sl_s, hoi, hos, hob, hon, hod, fzi, fzs, fzb, p_add, p_adds, p_sub, p_mul, p_fdiv, p_mod, p_pow, p_neg, p_lt, p_le, p_gt, p_ge, p_eqi, p_eqs, p_nei, p_nes, p_idx, p_lenS, p_lenL, p_lenT, p_lenC, p_abs, p_intb, idxL, idxC, idxT, idxS, Bool.not_false, Bool.not_true, true_and, and_true, decide_eq_true_eq, List.set_cons_zero, List.set_cons_succ, ok_fin, ok_finx, rf_nil, rf_rf, pb_nil, pb_rf, rf_c, pb_c, rf_g, pb_g, rf_pr, pb_pr, rf_mv, pb_mv, rf_and, pb_and, rf_or, pb_or, rf_not, pb_not, rf_fz, pb_fz, rf_chn, pb_chn, rf_slc, pb_slc, rf_ite, pb_ite, rf_call, pb_call, rf_mut, pb_mut, rf_lst, pb_lst, rf_tup, pb_tup, rf_comp, pb_comp, rf_v, pb_v, frz_nd, frz_i, frz_s, frz_b, frz_n, frzs_n, frzs_c, frzs_int, frzs_str, fzd, fzn, nh_nil, nh_cons, ao_nil, ao_cons, ct_nil, ct_cons, List.length_cons, List.length_nil, Nat.reduceAdd, Nat.reduceLeDiff, Nat.reduceBEq, Bool.and_self, Bool.true_and, Bool.and_true, Bool.false_or, Bool.or_false, Bool.or_self, decide_true, decide_false, if_true, if_false, reduceIte, Bool.false_eq_true, at0, at1, at2, at3, Nat.zero_add, Nat.reduceLT, Nat.reduceSub, not_true_eq_false, not_false_eq_true, oi_tup, oi_lst, oi_pr, oi_call, oi_slc, oi_fz, oi_ite, oi_comp, oi_c, oi_g, sq_str, sq_lst, sq_tup, ss_str, ss_lst, ss_scr, ss_tup, al_nil, al_cons, ifx_rng, ifx_fro, ifx_slot, ifx_slotT, isI_int, ne_eq, Int.reduceEq, Int.reduceNeg, Int.reduceLT, Int.reduceLE, l1, small_n (show a.length ≤ 1000000 by omega), Int.toNat_natCast]
  refine loop_rng0 (fun j e => (∃ x2, e = [.str a, .str p, x2]) ∧ ∀ k < j, (decide (ch p k = 45) || decide (ch p k = ch a k)) = true) (by omega) ⟨⟨_, rfl⟩, by simp⟩ (fun j e hj he => ?_) (fun e he => ?_)
  · obtain ⟨⟨x4, rfl⟩, hk⟩ := he
    simp only [turn_one, ok_c, ok_g, ok_v, ok_mv, ok_pr, ok_fz, ok_and, ok_or, ok_not, NB_bl, ok_ite, ok_chn, ok_lst', ok_tup', ok_call, ok_mut, ok_slcv, oa_nil, oa_v, oa_c, oa_g, oa_pr, oa_mv, oa_and, oa_or, oa_not, oa_fz, oa_chn, oa_slc, oa_ite, oa_call, oa_mut, oa_lst, oa_tup, oa_comp, or_nil, or_rf, or_v, or_c, or_g, or_pr, or_mv, or_and, or_or, or_not, or_fz, or_chn, or_slc, or_ite, or_call, or_mut, or_lst, or_tup, or_comp, reduceCtorEq, os_nil, os_cons, os_asg, os_unp, os_exs, os_aug, os_ife, os_ret, os_retN, os_rse, os_brk, os_cnt, os_pas, os_kil, os_asgP, os_fors, oi_rng1, oi_rng2, oi_v, IN_int, IN2_int, SL_int, OK_ok, OS_nx, OS_rt, OS_bk, OS_ct, SM_some, SM_if, SM_map, SM_bind, BR_bl, Cn.d, List.getElem?_cons_zero, List.getElem?_cons_succ, sl_z, sl_s, hoi, hos, hob, hon, hod, fzi, fzs, fzb, p_add, p_adds, p_sub, p_mul, p_fdiv, p_mod, p_pow, p_neg, p_lt, p_le, p_gt, p_ge, p_eqi, p_eqs, p_nei, p_nes, p_idx, p_lenS, p_lenL, p_lenT, p_lenC, p_abs, p_intb, idxL, idxC, idxT, idxS, Bool.not_false, Bool.not_true, true_and, and_true, decide_eq_true_eq, List.set_cons_zero, List.set_cons_succ, ok_fin, ok_finx, rf_nil, rf_rf, pb_nil, pb_rf, rf_c, pb_c, rf_g, pb_g, rf_pr, pb_pr, rf_mv, pb_mv, rf_and, pb_and, rf_or, pb_or, rf_not, pb_not, rf_fz, pb_fz, rf_chn, pb_chn, rf_slc, pb_slc, rf_ite, pb_ite, rf_call, pb_call, rf_mut, pb_mut, rf_lst, pb_lst, rf_tup, pb_tup, rf_comp, pb_comp, rf_v, pb_v, frz_nd, frz_i, frz_s, frz_b, frz_n, frzs_n, frzs_c, frzs_int, frzs_str, fzd, fzn, nh_nil, nh_cons, ao_nil, ao_cons, ct_nil, ct_cons, List.length_cons, List.length_nil, Nat.reduceAdd, Nat.reduceLeDiff, Nat.reduceBEq, Bool.and_self, Bool.true_and, Bool.and_true, Bool.false_or, Bool.or_false, Bool.or_self, decide_true, decide_false, if_true, if_false, reduceIte, Bool.false_eq_true, at0, at1, at2, at3, Nat.zero_add, Nat.reduceLT, Nat.reduceSub, not_true_eq_false, not_false_eq_true, oi_tup, oi_lst, oi_pr, oi_call, oi_slc, oi_fz, oi_ite, oi_comp, oi_c, oi_g, sq_str, sq_lst, sq_tup, ss_str, ss_lst, ss_scr, ss_tup, al_nil, al_cons, ifx_rng, ifx_fro, ifx_slot, ifx_slotT, isI_int, ne_eq, Int.reduceEq, Int.reduceNeg, Int.reduceLT, Int.reduceLE, atC hj, atC (show j < p.length by omega), l1, l2, sgl]
    by_cases c1 : ch p j = 45
    · simp only [ok_c, ok_g, ok_v, ok_mv, ok_pr, ok_fz, ok_and, ok_or, ok_not, NB_bl, ok_ite, ok_chn, ok_lst', ok_tup', ok_call, ok_mut, ok_slcv, oa_nil, oa_v, oa_c, oa_g, oa_pr, oa_mv, oa_and, oa_or, oa_not, oa_fz, oa_chn, oa_slc, oa_ite, oa_call, oa_mut, oa_lst, oa_tup, oa_comp, or_nil, or_rf, or_v, or_c, or_g, or_pr, or_mv, or_and, or_or, or_not, or_fz, or_chn, or_slc, or_ite, or_call, or_mut, or_lst, or_tup, or_comp, reduceCtorEq, os_nil, os_cons, os_asg, os_unp, os_exs, os_aug, os_ife, os_ret, os_retN, os_rse, os_brk, os_cnt, os_pas, os_kil, os_asgP, os_fors, oi_rng1, oi_rng2, oi_v, IN_int, IN2_int, SL_int, OK_ok, OS_nx, OS_rt, OS_bk, OS_ct, SM_some, SM_if, SM_map, SM_bind, BR_bl, Cn.d, List.getElem?_cons_zero, List.getElem?_cons_succ, sl_z, sl_s, hoi, hos, hob, hon, hod, fzi, fzs, fzb, p_add, p_adds, p_sub, p_mul, p_fdiv, p_mod, p_pow, p_neg, p_lt, p_le, p_gt, p_ge, p_eqi, p_eqs, p_nei, p_nes, p_idx, p_lenS, p_lenL, p_lenT, p_lenC, p_abs, p_intb, idxL, idxC, idxT, idxS, Bool.not_false, Bool.not_true, true_and, and_true, decide_eq_true_eq, List.set_cons_zero, List.set_cons_succ, ok_fin, ok_finx, rf_nil, rf_rf, pb_nil, pb_rf, rf_c, pb_c, rf_g, pb_g, rf_pr, pb_pr, rf_mv, pb_mv, rf_and, pb_and, rf_or, pb_or, rf_not, pb_not, rf_fz, pb_fz, rf_chn, pb_chn, rf_slc, pb_slc, rf_ite, pb_ite, rf_call, pb_call, rf_mut, pb_mut, rf_lst, pb_lst, rf_tup, pb_tup, rf_comp, pb_comp, rf_v, pb_v, frz_nd, frz_i, frz_s, frz_b, frz_n, frzs_n, frzs_c, frzs_int, frzs_str, fzd, fzn, nh_nil, nh_cons, ao_nil, ao_cons, ct_nil, ct_cons, List.length_cons, List.length_nil, Nat.reduceAdd, Nat.reduceLeDiff, Nat.reduceBEq, Bool.and_self, Bool.true_and, Bool.and_true, Bool.false_or, Bool.or_false, Bool.or_self, decide_true, decide_false, if_true, if_false, reduceIte, Bool.false_eq_true, at0, at1, at2, at3, Nat.zero_add, Nat.reduceLT, Nat.reduceSub, not_true_eq_false, not_false_eq_true, oi_tup, oi_lst, oi_pr, oi_call, oi_slc, oi_fz, oi_ite, oi_comp, oi_c, oi_g, sq_str, sq_lst, sq_tup, ss_str, ss_lst, ss_scr, ss_tup, al_nil, al_cons, ifx_rng, ifx_fro, ifx_slot, ifx_slotT, isI_int, ne_eq, Int.reduceEq, Int.reduceNeg, Int.reduceLT, Int.reduceLE, c1]
      exact ⟨⟨_, rfl⟩, fun k hk' => by rcases Nat.lt_succ_iff_lt_or_eq.mp hk' with z | rfl; exact hk k z; simp [c1]⟩
    · by_cases c2 : ch p j = ch a j
      · simp only [ok_c, ok_g, ok_v, ok_mv, ok_pr, ok_fz, ok_and, ok_or, ok_not, NB_bl, ok_ite, ok_chn, ok_lst', ok_tup', ok_call, ok_mut, ok_slcv, oa_nil, oa_v, oa_c, oa_g, oa_pr, oa_mv, oa_and, oa_or, oa_not, oa_fz, oa_chn, oa_slc, oa_ite, oa_call, oa_mut, oa_lst, oa_tup, oa_comp, or_nil, or_rf, or_v, or_c, or_g, or_pr, or_mv, or_and, or_or, or_not, or_fz, or_chn, or_slc, or_ite, or_call, or_mut, or_lst, or_tup, or_comp, reduceCtorEq, os_nil, os_cons, os_asg, os_unp, os_exs, os_aug, os_ife, os_ret, os_retN, os_rse, os_brk, os_cnt, os_pas, os_kil, os_asgP, os_fors, oi_rng1, oi_rng2, oi_v, IN_int, IN2_int, SL_int, OK_ok, OS_nx, OS_rt, OS_bk, OS_ct, SM_some, SM_if, SM_map, SM_bind, BR_bl, Cn.d, List.getElem?_cons_zero, List.getElem?_cons_succ, sl_z, sl_s, hoi, hos, hob, hon, hod, fzi, fzs, fzb, p_add, p_adds, p_sub, p_mul, p_fdiv, p_mod, p_pow, p_neg, p_lt, p_le, p_gt, p_ge, p_eqi, p_eqs, p_nei, p_nes, p_idx, p_lenS, p_lenL, p_lenT, p_lenC, p_abs, p_intb, idxL, idxC, idxT, idxS, Bool.not_false, Bool.not_true, true_and, and_true, decide_eq_true_eq, List.set_cons_zero, List.set_cons_succ, ok_fin, ok_finx, rf_nil, rf_rf, pb_nil, pb_rf, rf_c, pb_c, rf_g, pb_g, rf_pr, pb_pr, rf_mv, pb_mv, rf_and, pb_and, rf_or, pb_or, rf_not, pb_not, rf_fz, pb_fz, rf_chn, pb_chn, rf_slc, pb_slc, rf_ite, pb_ite, rf_call, pb_call, rf_mut, pb_mut, rf_lst, pb_lst, rf_tup, pb_tup, rf_comp, pb_comp, rf_v, pb_v, frz_nd, frz_i, frz_s, frz_b, frz_n, frzs_n, frzs_c, frzs_int, frzs_str, fzd, fzn, nh_nil, nh_cons, ao_nil, ao_cons, ct_nil, ct_cons, List.length_cons, List.length_nil, Nat.reduceAdd, Nat.reduceLeDiff, Nat.reduceBEq, Bool.and_self, Bool.true_and, Bool.and_true, Bool.false_or, Bool.or_false, Bool.or_self, decide_true, decide_false, if_true, if_false, reduceIte, Bool.false_eq_true, at0, at1, at2, at3, Nat.zero_add, Nat.reduceLT, Nat.reduceSub, not_true_eq_false, not_false_eq_true, oi_tup, oi_lst, oi_pr, oi_call, oi_slc, oi_fz, oi_ite, oi_comp, oi_c, oi_g, sq_str, sq_lst, sq_tup, ss_str, ss_lst, ss_scr, ss_tup, al_nil, al_cons, ifx_rng, ifx_fro, ifx_slot, ifx_slotT, isI_int, ne_eq, Int.reduceEq, Int.reduceNeg, Int.reduceLT, Int.reduceLE, c1, c2]
        have c3 : ¬ ch a j = 45 := fun z => c1 (c2.trans z)
        simp only [ok_c, ok_g, ok_v, ok_mv, ok_pr, ok_fz, ok_and, ok_or, ok_not, NB_bl, ok_ite, ok_chn, ok_lst', ok_tup', ok_call, ok_mut, ok_slcv, oa_nil, oa_v, oa_c, oa_g, oa_pr, oa_mv, oa_and, oa_or, oa_not, oa_fz, oa_chn, oa_slc, oa_ite, oa_call, oa_mut, oa_lst, oa_tup, oa_comp, or_nil, or_rf, or_v, or_c, or_g, or_pr, or_mv, or_and, or_or, or_not, or_fz, or_chn, or_slc, or_ite, or_call, or_mut, or_lst, or_tup, or_comp, reduceCtorEq, os_nil, os_cons, os_asg, os_unp, os_exs, os_aug, os_ife, os_ret, os_retN, os_rse, os_brk, os_cnt, os_pas, os_kil, os_asgP, os_fors, oi_rng1, oi_rng2, oi_v, IN_int, IN2_int, SL_int, OK_ok, OS_nx, OS_rt, OS_bk, OS_ct, SM_some, SM_if, SM_map, SM_bind, BR_bl, Cn.d, List.getElem?_cons_zero, List.getElem?_cons_succ, sl_z, sl_s, hoi, hos, hob, hon, hod, fzi, fzs, fzb, p_add, p_adds, p_sub, p_mul, p_fdiv, p_mod, p_pow, p_neg, p_lt, p_le, p_gt, p_ge, p_eqi, p_eqs, p_nei, p_nes, p_idx, p_lenS, p_lenL, p_lenT, p_lenC, p_abs, p_intb, idxL, idxC, idxT, idxS, Bool.not_false, Bool.not_true, true_and, and_true, decide_eq_true_eq, List.set_cons_zero, List.set_cons_succ, ok_fin, ok_finx, rf_nil, rf_rf, pb_nil, pb_rf, rf_c, pb_c, rf_g, pb_g, rf_pr, pb_pr, rf_mv, pb_mv, rf_and, pb_and, rf_or, pb_or, rf_not, pb_not, rf_fz, pb_fz, rf_chn, pb_chn, rf_slc, pb_slc, rf_ite, pb_ite, rf_call, pb_call, rf_mut, pb_mut, rf_lst, pb_lst, rf_tup, pb_tup, rf_comp, pb_comp, rf_v, pb_v, frz_nd, frz_i, frz_s, frz_b, frz_n, frzs_n, frzs_c, frzs_int, frzs_str, fzd, fzn, nh_nil, nh_cons, ao_nil, ao_cons, ct_nil, ct_cons, List.length_cons, List.length_nil, Nat.reduceAdd, Nat.reduceLeDiff, Nat.reduceBEq, Bool.and_self, Bool.true_and, Bool.and_true, Bool.false_or, Bool.or_false, Bool.or_self, decide_true, decide_false, if_true, if_false, reduceIte, Bool.false_eq_true, at0, at1, at2, at3, Nat.zero_add, Nat.reduceLT, Nat.reduceSub, not_true_eq_false, not_false_eq_true, oi_tup, oi_lst, oi_pr, oi_call, oi_slc, oi_fz, oi_ite, oi_comp, oi_c, oi_g, sq_str, sq_lst, sq_tup, ss_str, ss_lst, ss_scr, ss_tup, al_nil, al_cons, ifx_rng, ifx_fro, ifx_slot, ifx_slotT, isI_int, ne_eq, Int.reduceEq, Int.reduceNeg, Int.reduceLT, Int.reduceLE, c3]
        exact ⟨⟨_, rfl⟩, fun k hk' => by rcases Nat.lt_succ_iff_lt_or_eq.mp hk' with z | rfl; exact hk k z; simp [c2]⟩
      · simp only [ok_c, ok_g, ok_v, ok_mv, ok_pr, ok_fz, ok_and, ok_or, ok_not, NB_bl, ok_ite, ok_chn, ok_lst', ok_tup', ok_call, ok_mut, ok_slcv, oa_nil, oa_v, oa_c, oa_g, oa_pr, oa_mv, oa_and, oa_or, oa_not, oa_fz, oa_chn, oa_slc, oa_ite, oa_call, oa_mut, oa_lst, oa_tup, oa_comp, or_nil, or_rf, or_v, or_c, or_g, or_pr, or_mv, or_and, or_or, or_not, or_fz, or_chn, or_slc, or_ite, or_call, or_mut, or_lst, or_tup, or_comp, reduceCtorEq, os_nil, os_cons, os_asg, os_unp, os_exs, os_aug, os_ife, os_ret, os_retN, os_rse, os_brk, os_cnt, os_pas, os_kil, os_asgP, os_fors, oi_rng1, oi_rng2, oi_v, IN_int, IN2_int, SL_int, OK_ok, OS_nx, OS_rt, OS_bk, OS_ct, SM_some, SM_if, SM_map, SM_bind, BR_bl, Cn.d, List.getElem?_cons_zero, List.getElem?_cons_succ, sl_z, sl_s, hoi, hos, hob, hon, hod, fzi, fzs, fzb, p_add, p_adds, p_sub, p_mul, p_fdiv, p_mod, p_pow, p_neg, p_lt, p_le, p_gt, p_ge, p_eqi, p_eqs, p_nei, p_nes, p_idx, p_lenS, p_lenL, p_lenT, p_lenC, p_abs, p_intb, idxL, idxC, idxT, idxS, Bool.not_false, Bool.not_true, true_and, and_true, decide_eq_true_eq, List.set_cons_zero, List.set_cons_succ, ok_fin, ok_finx, rf_nil, rf_rf, pb_nil, pb_rf, rf_c, pb_c, rf_g, pb_g, rf_pr, pb_pr, rf_mv, pb_mv, rf_and, pb_and, rf_or, pb_or, rf_not, pb_not, rf_fz, pb_fz, rf_chn, pb_chn, rf_slc, pb_slc, rf_ite, pb_ite, rf_call, pb_call, rf_mut, pb_mut, rf_lst, pb_lst, rf_tup, pb_tup, rf_comp, pb_comp, rf_v, pb_v, frz_nd, frz_i, frz_s, frz_b, frz_n, frzs_n, frzs_c, frzs_int, frzs_str, fzd, fzn, nh_nil, nh_cons, ao_nil, ao_cons, ct_nil, ct_cons, List.length_cons, List.length_nil, Nat.reduceAdd, Nat.reduceLeDiff, Nat.reduceBEq, Bool.and_self, Bool.true_and, Bool.and_true, Bool.false_or, Bool.or_false, Bool.or_self, decide_true, decide_false, if_true, if_false, reduceIte, Bool.false_eq_true, at0, at1, at2, at3, Nat.zero_add, Nat.reduceLT, Nat.reduceSub, not_true_eq_false, not_false_eq_true, oi_tup, oi_lst, oi_pr, oi_call, oi_slc, oi_fz, oi_ite, oi_comp, oi_c, oi_g, sq_str, sq_lst, sq_tup, ss_str, ss_lst, ss_scr, ss_tup, al_nil, al_cons, ifx_rng, ifx_fro, ifx_slot, ifx_slotT, isI_int, ne_eq, Int.reduceEq, Int.reduceNeg, Int.reduceLT, Int.reduceLE, c1, c2]
        refine ⟨?_, by simp [d16], by simp [d16, outE]⟩
        have : matS a p = false := by
          unfold matS
          rw [List.all_eq_false]
          exact ⟨j, by simpa using hj, by simp [c1, c2]⟩
        rw [this]
  · obtain ⟨⟨x4, rfl⟩, hk⟩ := he
    simp only [ok_c, ok_g, ok_v, ok_mv, ok_pr, ok_fz, ok_and, ok_or, ok_not, NB_bl, ok_ite, ok_chn, ok_lst', ok_tup', ok_call, ok_mut, ok_slcv, oa_nil, oa_v, oa_c, oa_g, oa_pr, oa_mv, oa_and, oa_or, oa_not, oa_fz, oa_chn, oa_slc, oa_ite, oa_call, oa_mut, oa_lst, oa_tup, oa_comp, or_nil, or_rf, or_v, or_c, or_g, or_pr, or_mv, or_and, or_or, or_not, or_fz, or_chn, or_slc, or_ite, or_call, or_mut, or_lst, or_tup, or_comp, reduceCtorEq, os_nil, os_cons, os_asg, os_unp, os_exs, os_aug, os_ife, os_ret, os_retN, os_rse, os_brk, os_cnt, os_pas, os_kil, os_asgP, os_fors, oi_rng1, oi_rng2, oi_v, IN_int, IN2_int, SL_int, OK_ok, OS_nx, OS_rt, OS_bk, OS_ct, SM_some, SM_if, SM_map, SM_bind, BR_bl, Cn.d, List.getElem?_cons_zero, List.getElem?_cons_succ, sl_z, sl_s, hoi, hos, hob, hon, hod, fzi, fzs, fzb, p_add, p_adds, p_sub, p_mul, p_fdiv, p_mod, p_pow, p_neg, p_lt, p_le, p_gt, p_ge, p_eqi, p_eqs, p_nei, p_nes, p_idx, p_lenS, p_lenL, p_lenT, p_lenC, p_abs, p_intb, idxL, idxC, idxT, idxS, Bool.not_false, Bool.not_true, true_and, and_true, decide_eq_true_eq, List.set_cons_zero, List.set_cons_succ, ok_fin, ok_finx, rf_nil, rf_rf, pb_nil, pb_rf, rf_c, pb_c, rf_g, pb_g, rf_pr, pb_pr, rf_mv, pb_mv, rf_and, pb_and, rf_or, pb_or, rf_not, pb_not, rf_fz, pb_fz, rf_chn, pb_chn, rf_slc, pb_slc, rf_ite, pb_ite, rf_call, pb_call, rf_mut, pb_mut, rf_lst, pb_lst, rf_tup, pb_tup, rf_comp, pb_comp, rf_v, pb_v, frz_nd, frz_i, frz_s, frz_b, frz_n, frzs_n, frzs_c, frzs_int, frzs_str, fzd, fzn, nh_nil, nh_cons, ao_nil, ao_cons, ct_nil, ct_cons, List.length_cons, List.length_nil, Nat.reduceAdd, Nat.reduceLeDiff, Nat.reduceBEq, Bool.and_self, Bool.true_and, Bool.and_true, Bool.false_or, Bool.or_false, Bool.or_self, decide_true, decide_false, if_true, if_false, reduceIte, Bool.false_eq_true, at0, at1, at2, at3, Nat.zero_add, Nat.reduceLT, Nat.reduceSub, not_true_eq_false, not_false_eq_true, oi_tup, oi_lst, oi_pr, oi_call, oi_slc, oi_fz, oi_ite, oi_comp, oi_c, oi_g, sq_str, sq_lst, sq_tup, ss_str, ss_lst, ss_scr, ss_tup, al_nil, al_cons, ifx_rng, ifx_fro, ifx_slot, ifx_slotT, isI_int, ne_eq, Int.reduceEq, Int.reduceNeg, Int.reduceLT, Int.reduceLE]
    refine ⟨?_, by simp [d16], by simp [d16, outE]⟩
    have : matS a p = true := by
      unfold matS
      rw [List.all_eq_true]
      exact fun j hj => hk j (by simpa using hj)
    rw [this]
def patC (c : Int) (a : List Nat) : Nat → Nat × Int
  | 0 => (if c.fmod 3 = 0 then ch a 0 else 45, c.fdiv 3)
  | j + 1 => let d := (patC c a j).2; (if d.fmod 3 = 0 then ch a (j + 1) else 45, d.fdiv 3)
theorem pattern_ok (h : P 18 = some d18) (a : List Nat) (c : Int) (hn : a.length ≤ 1000) :
    ∃ p, (gam P (k + 1)).run 18 [.str a, .int c] = .ok (.str p) [.str a, .hole] ∧ p.length = a.length ∧ ∀ j, j < a.length → ch p j = 45 ∨ ch p j = ch a j := by
  rw [run_eq h rfl (by decide) (by decide)]
  suffices h : ∃ d outs, flOut d18.fx d18.np (execs (gam P k) d18.body d18.fx (startE d18.ns [.str a, .int c])) = .ok d outs ∧ ∃ p, d = .str p ∧ outs = [.str a, .hole] ∧ p.length = a.length ∧ ∀ j, j < a.length → ch p j = 45 ∨ ch p j = ch a j by
    obtain ⟨d, outs, h1, row, rfl, rfl, h2, h3⟩ := h
    exact ⟨row, h1, h2, h3⟩
  refine fl_ex ?_
  show OS _ (execs (gam P k) [_, _, _] [0] [_, _, .hole, .hole])
  have l1 : a.length ≤ lim := by unfold lim; omega
  simp only [ok_c, ok_g, ok_v, ok_mv, ok_pr, ok_fz, ok_and, ok_or, ok_not, NB_bl, ok_ite, ok_chn, ok_lst', ok_tup', ok_call, ok_mut, ok_slcv, oa_nil, oa_v, oa_c, oa_g, oa_pr, oa_mv, oa_and, oa_or, oa_not, oa_fz, oa_chn, oa_slc, oa_ite, oa_call, oa_mut, oa_lst, oa_tup, oa_comp, or_nil, or_rf, or_v, or_c, or_g, or_pr, or_mv, or_and, or_or, or_not, or_fz, or_chn, or_slc, or_ite, or_call, or_mut, or_lst, or_tup, or_comp, reduceCtorEq, os_nil, os_cons, os_asg, os_unp, os_exs, os_aug, os_ife, os_ret, os_retN, os_rse, os_brk, os_cnt, os_pas, os_kil, os_asgP, os_fors, oi_rng1, oi_rng2, oi_v, IN_int, IN2_int, SL_int, OK_ok, OS_nx, OS_rt, OS_bk, OS_ct, SM_some, SM_if, SM_map, SM_bind, BR_bl, Cn.d, List.getElem?_cons_zero, List.getElem?_cons_succ, sl_z, sl_s, hoi, hos, hob, hon, hod, fzi, fzs, fzb, p_add, p_adds, p_sub, p_mul, p_fdiv, p_mod, p_pow, p_neg, p_lt, p_le, p_gt, p_ge, p_eqi, p_eqs, p_nei, p_nes, p_idx, p_lenS, p_lenL, p_lenT, p_lenC, p_abs, p_intb, idxL, idxC, idxT, idxS, Bool.not_false, Bool.not_true, true_and, and_true, decide_eq_true_eq, List.set_cons_zero, List.set_cons_succ, ok_fin, ok_finx, rf_nil, rf_rf, pb_nil, pb_rf, rf_c, pb_c, rf_g, pb_g, rf_pr, pb_pr, rf_mv, pb_mv, rf_and, pb_and, rf_or, pb_or, rf_not, pb_not, rf_fz, pb_fz, rf_chn, pb_chn, rf_slc, pb_slc, rf_ite, pb_ite, rf_call, pb_call, rf_mut, pb_mut, rf_lst, pb_lst, rf_tup, pb_tup, rf_comp, pb_comp, rf_v, pb_v, frz_nd, frz_i, frz_s, frz_b, frz_n, frzs_n, frzs_c, frzs_int, frzs_str, fzd, fzn, nh_nil, nh_cons, ao_nil, ao_cons, ct_nil, ct_cons, List.length_cons, List.length_nil, Nat.reduceAdd, Nat.reduceLeDiff, Nat.reduceBEq, Bool.and_self, Bool.true_and, Bool.and_true, Bool.false_or, Bool.or_false, Bool.or_self, decide_true, decide_false, if_true, if_false, reduceIte, Bool.false_eq_true, at0, at1, at2, at3, Nat.zero_add, Nat.reduceLT, Nat.reduceSub, not_true_eq_false, not_false_eq_true, oi_tup, oi_lst, oi_pr, oi_call, oi_slc, oi_fz, oi_ite, oi_comp, oi_c, oi_g, sq_str, sq_lst, sq_tup, ss_str, ss_lst, ss_scr, ss_tup, al_nil, al_cons, ifx_rng, ifx_fro, ifx_slot, ifx_slotT, isI_int, ne_eq, Int.reduceEq, Int.reduceNeg, Int.reduceLT, Int.reduceLE, l1, small_n (show a.length ≤ 1000000 by omega), Int.toNat_natCast]
  refine loop_rng0 (fun j e => ∃ c p x3, p.length = j ∧ (∀ k, k < j → ch p k = 45 ∨ ch p k = ch a k) ∧ e = [.str a, .int c, .str p, x3]) (by omega) ⟨_, [], _, rfl, by simp, rfl⟩ (fun j e hj he => ?_) (fun e he => ?_)
  · obtain ⟨c, p, x3, hp, hk, rfl⟩ := he
    have hj2 : p.length + 1 ≤ lim := by unfold lim; omega
    have h3 : Int.natAbs 3 < 1073741824 := by decide
    have step : ∀ x, x = 45 ∨ x = ch a j → ∀ k, k < j + 1 → ch (p ++ [x]) k = 45 ∨ ch (p ++ [x]) k = ch a k := by
      intro x hx k hk'
      rcases Nat.lt_succ_iff_lt_or_eq.mp hk' with z | rfl
      · have : ch (p ++ [x]) k = ch p k := by simp [ch, List.getElem?_append, show k < p.length by omega]
        rw [this]; exact hk k z
      · have : ch (p ++ [x]) k = x := by simp [ch, List.getElem?_append, hp]
        rw [this]; exact hx
    simp only [turn_one, ok_c, ok_g, ok_v, ok_mv, ok_pr, ok_fz, ok_and, ok_or, ok_not, NB_bl, ok_ite, ok_chn, ok_lst', ok_tup', ok_call, ok_mut, ok_slcv, oa_nil, oa_v, oa_c, oa_g, oa_pr, oa_mv, oa_and, oa_or, oa_not, oa_fz, oa_chn, oa_slc, oa_ite, oa_call, oa_mut, oa_lst, oa_tup, oa_comp, or_nil, or_rf, or_v, or_c, or_g, or_pr, or_mv, or_and, or_or, or_not, or_fz, or_chn, or_slc, or_ite, or_call, or_mut, or_lst, or_tup, or_comp, reduceCtorEq, os_nil, os_cons, os_asg, os_unp, os_exs, os_aug, os_ife, os_ret, os_retN, os_rse, os_brk, os_cnt, os_pas, os_kil, os_asgP, os_fors, oi_rng1, oi_rng2, oi_v, IN_int, IN2_int, SL_int, OK_ok, OS_nx, OS_rt, OS_bk, OS_ct, SM_some, SM_if, SM_map, SM_bind, BR_bl, Cn.d, List.getElem?_cons_zero, List.getElem?_cons_succ, sl_z, sl_s, hoi, hos, hob, hon, hod, fzi, fzs, fzb, p_add, p_adds, p_sub, p_mul, p_fdiv, p_mod, p_pow, p_neg, p_lt, p_le, p_gt, p_ge, p_eqi, p_eqs, p_nei, p_nes, p_idx, p_lenS, p_lenL, p_lenT, p_lenC, p_abs, p_intb, idxL, idxC, idxT, idxS, Bool.not_false, Bool.not_true, true_and, and_true, decide_eq_true_eq, List.set_cons_zero, List.set_cons_succ, ok_fin, ok_finx, rf_nil, rf_rf, pb_nil, pb_rf, rf_c, pb_c, rf_g, pb_g, rf_pr, pb_pr, rf_mv, pb_mv, rf_and, pb_and, rf_or, pb_or, rf_not, pb_not, rf_fz, pb_fz, rf_chn, pb_chn, rf_slc, pb_slc, rf_ite, pb_ite, rf_call, pb_call, rf_mut, pb_mut, rf_lst, pb_lst, rf_tup, pb_tup, rf_comp, pb_comp, rf_v, pb_v, frz_nd, frz_i, frz_s, frz_b, frz_n, frzs_n, frzs_c, frzs_int, frzs_str, fzd, fzn, nh_nil, nh_cons, ao_nil, ao_cons, ct_nil, ct_cons, List.length_cons, List.length_nil, Nat.reduceAdd, Nat.reduceLeDiff, Nat.reduceBEq, Bool.and_self, Bool.true_and, Bool.and_true, Bool.false_or, Bool.or_false, Bool.or_self, decide_true, decide_false, if_true, if_false, reduceIte, Bool.false_eq_true, at0, at1, at2, at3, Nat.zero_add, Nat.reduceLT, Nat.reduceSub, not_true_eq_false, not_false_eq_true, oi_tup, oi_lst, oi_pr, oi_call, oi_slc, oi_fz, oi_ite, oi_comp, oi_c, oi_g, sq_str, sq_lst, sq_tup, ss_str, ss_lst, ss_scr, ss_tup, al_nil, al_cons, ifx_rng, ifx_fro, ifx_slot, ifx_slotT, isI_int, ne_eq, Int.reduceEq, Int.reduceNeg, Int.reduceLT, Int.reduceLE, atC hj, l1, hj2, h3]
    by_cases c1 : c.fmod 3 = 0
    · simp only [ok_c, ok_g, ok_v, ok_mv, ok_pr, ok_fz, ok_and, ok_or, ok_not, NB_bl, ok_ite, ok_chn, ok_lst', ok_tup', ok_call, ok_mut, ok_slcv, oa_nil, oa_v, oa_c, oa_g, oa_pr, oa_mv, oa_and, oa_or, oa_not, oa_fz, oa_chn, oa_slc, oa_ite, oa_call, oa_mut, oa_lst, oa_tup, oa_comp, or_nil, or_rf, or_v, or_c, or_g, or_pr, or_mv, or_and, or_or, or_not, or_fz, or_chn, or_slc, or_ite, or_call, or_mut, or_lst, or_tup, or_comp, reduceCtorEq, os_nil, os_cons, os_asg, os_unp, os_exs, os_aug, os_ife, os_ret, os_retN, os_rse, os_brk, os_cnt, os_pas, os_kil, os_asgP, os_fors, oi_rng1, oi_rng2, oi_v, IN_int, IN2_int, SL_int, OK_ok, OS_nx, OS_rt, OS_bk, OS_ct, SM_some, SM_if, SM_map, SM_bind, BR_bl, Cn.d, List.getElem?_cons_zero, List.getElem?_cons_succ, sl_z, sl_s, hoi, hos, hob, hon, hod, fzi, fzs, fzb, p_add, p_adds, p_sub, p_mul, p_fdiv, p_mod, p_pow, p_neg, p_lt, p_le, p_gt, p_ge, p_eqi, p_eqs, p_nei, p_nes, p_idx, p_lenS, p_lenL, p_lenT, p_lenC, p_abs, p_intb, idxL, idxC, idxT, idxS, Bool.not_false, Bool.not_true, true_and, and_true, decide_eq_true_eq, List.set_cons_zero, List.set_cons_succ, ok_fin, ok_finx, rf_nil, rf_rf, pb_nil, pb_rf, rf_c, pb_c, rf_g, pb_g, rf_pr, pb_pr, rf_mv, pb_mv, rf_and, pb_and, rf_or, pb_or, rf_not, pb_not, rf_fz, pb_fz, rf_chn, pb_chn, rf_slc, pb_slc, rf_ite, pb_ite, rf_call, pb_call, rf_mut, pb_mut, rf_lst, pb_lst, rf_tup, pb_tup, rf_comp, pb_comp, rf_v, pb_v, frz_nd, frz_i, frz_s, frz_b, frz_n, frzs_n, frzs_c, frzs_int, frzs_str, fzd, fzn, nh_nil, nh_cons, ao_nil, ao_cons, ct_nil, ct_cons, List.length_cons, List.length_nil, Nat.reduceAdd, Nat.reduceLeDiff, Nat.reduceBEq, Bool.and_self, Bool.true_and, Bool.and_true, Bool.false_or, Bool.or_false, Bool.or_self, decide_true, decide_false, if_true, if_false, reduceIte, Bool.false_eq_true, at0, at1, at2, at3, Nat.zero_add, Nat.reduceLT, Nat.reduceSub, not_true_eq_false, not_false_eq_true, oi_tup, oi_lst, oi_pr, oi_call, oi_slc, oi_fz, oi_ite, oi_comp, oi_c, oi_g, sq_str, sq_lst, sq_tup, ss_str, ss_lst, ss_scr, ss_tup, al_nil, al_cons, ifx_rng, ifx_fro, ifx_slot, ifx_slotT, isI_int, ne_eq, Int.reduceEq, Int.reduceNeg, Int.reduceLT, Int.reduceLE, c1]
      exact ⟨_, _, _, by simp [hp], step _ (.inr rfl), rfl⟩
    · simp only [ok_c, ok_g, ok_v, ok_mv, ok_pr, ok_fz, ok_and, ok_or, ok_not, NB_bl, ok_ite, ok_chn, ok_lst', ok_tup', ok_call, ok_mut, ok_slcv, oa_nil, oa_v, oa_c, oa_g, oa_pr, oa_mv, oa_and, oa_or, oa_not, oa_fz, oa_chn, oa_slc, oa_ite, oa_call, oa_mut, oa_lst, oa_tup, oa_comp, or_nil, or_rf, or_v, or_c, or_g, or_pr, or_mv, or_and, or_or, or_not, or_fz, or_chn, or_slc, or_ite, or_call, or_mut, or_lst, or_tup, or_comp, reduceCtorEq, os_nil, os_cons, os_asg, os_unp, os_exs, os_aug, os_ife, os_ret, os_retN, os_rse, os_brk, os_cnt, os_pas, os_kil, os_asgP, os_fors, oi_rng1, oi_rng2, oi_v, IN_int, IN2_int, SL_int, OK_ok, OS_nx, OS_rt, OS_bk, OS_ct, SM_some, SM_if, SM_map, SM_bind, BR_bl, Cn.d, List.getElem?_cons_zero, List.getElem?_cons_succ, sl_z, sl_s, hoi, hos, hob, hon, hod, fzi, fzs, fzb, p_add, p_adds, p_sub, p_mul, p_fdiv, p_mod, p_pow, p_neg, p_lt, p_le, p_gt, p_ge, p_eqi, p_eqs, p_nei, p_nes, p_idx, p_lenS, p_lenL, p_lenT, p_lenC, p_abs, p_intb, idxL, idxC, idxT, idxS, Bool.not_false, Bool.not_true, true_and, and_true, decide_eq_true_eq, List.set_cons_zero, List.set_cons_succ, ok_fin, ok_finx, rf_nil, rf_rf, pb_nil, pb_rf, rf_c, pb_c, rf_g, pb_g, rf_pr, pb_pr, rf_mv, pb_mv, rf_and, pb_and, rf_or, pb_or, rf_not, pb_not, rf_fz, pb_fz, rf_chn, pb_chn, rf_slc, pb_slc, rf_ite, pb_ite, rf_call, pb_call, rf_mut, pb_mut, rf_lst, pb_lst, rf_tup, pb_tup, rf_comp, pb_comp, rf_v, pb_v, frz_nd, frz_i, frz_s, frz_b, frz_n, frzs_n, frzs_c, frzs_int, frzs_str, fzd, fzn, nh_nil, nh_cons, ao_nil, ao_cons, ct_nil, ct_cons, List.length_cons, List.length_nil, Nat.reduceAdd, Nat.reduceLeDiff, Nat.reduceBEq, Bool.and_self, Bool.true_and, Bool.and_true, Bool.false_or, Bool.or_false, Bool.or_self, decide_true, decide_false, if_true, if_false, reduceIte, Bool.false_eq_true, at0, at1, at2, at3, Nat.zero_add, Nat.reduceLT, Nat.reduceSub, not_true_eq_false, not_false_eq_true, oi_tup, oi_lst, oi_pr, oi_call, oi_slc, oi_fz, oi_ite, oi_comp, oi_c, oi_g, sq_str, sq_lst, sq_tup, ss_str, ss_lst, ss_scr, ss_tup, al_nil, al_cons, ifx_rng, ifx_fro, ifx_slot, ifx_slotT, isI_int, ne_eq, Int.reduceEq, Int.reduceNeg, Int.reduceLT, Int.reduceLE, c1]
      exact ⟨_, _, _, by simp [hp], step _ (.inl rfl), rfl⟩
  · obtain ⟨c, p, x3, hp, hk, rfl⟩ := he
    simp only [ok_c, ok_g, ok_v, ok_mv, ok_pr, ok_fz, ok_and, ok_or, ok_not, NB_bl, ok_ite, ok_chn, ok_lst', ok_tup', ok_call, ok_mut, ok_slcv, oa_nil, oa_v, oa_c, oa_g, oa_pr, oa_mv, oa_and, oa_or, oa_not, oa_fz, oa_chn, oa_slc, oa_ite, oa_call, oa_mut, oa_lst, oa_tup, oa_comp, or_nil, or_rf, or_v, or_c, or_g, or_pr, or_mv, or_and, or_or, or_not, or_fz, or_chn, or_slc, or_ite, or_call, or_mut, or_lst, or_tup, or_comp, reduceCtorEq, os_nil, os_cons, os_asg, os_unp, os_exs, os_aug, os_ife, os_ret, os_retN, os_rse, os_brk, os_cnt, os_pas, os_kil, os_asgP, os_fors, oi_rng1, oi_rng2, oi_v, IN_int, IN2_int, SL_int, OK_ok, OS_nx, OS_rt, OS_bk, OS_ct, SM_some, SM_if, SM_map, SM_bind, BR_bl, Cn.d, List.getElem?_cons_zero, List.getElem?_cons_succ, sl_z, sl_s, hoi, hos, hob, hon, hod, fzi, fzs, fzb, p_add, p_adds, p_sub, p_mul, p_fdiv, p_mod, p_pow, p_neg, p_lt, p_le, p_gt, p_ge, p_eqi, p_eqs, p_nei, p_nes, p_idx, p_lenS, p_lenL, p_lenT, p_lenC, p_abs, p_intb, idxL, idxC, idxT, idxS, Bool.not_false, Bool.not_true, true_and, and_true, decide_eq_true_eq, List.set_cons_zero, List.set_cons_succ, ok_fin, ok_finx, rf_nil, rf_rf, pb_nil, pb_rf, rf_c, pb_c, rf_g, pb_g, rf_pr, pb_pr, rf_mv, pb_mv, rf_and, pb_and, rf_or, pb_or, rf_not, pb_not, rf_fz, pb_fz, rf_chn, pb_chn, rf_slc, pb_slc, rf_ite, pb_ite, rf_call, pb_call, rf_mut, pb_mut, rf_lst, pb_lst, rf_tup, pb_tup, rf_comp, pb_comp, rf_v, pb_v, frz_nd, frz_i, frz_s, frz_b, frz_n, frzs_n, frzs_c, frzs_int, frzs_str, fzd, fzn, nh_nil, nh_cons, ao_nil, ao_cons, ct_nil, ct_cons, List.length_cons, List.length_nil, Nat.reduceAdd, Nat.reduceLeDiff, Nat.reduceBEq, Bool.and_self, Bool.true_and, Bool.and_true, Bool.false_or, Bool.or_false, Bool.or_self, decide_true, decide_false, if_true, if_false, reduceIte, Bool.false_eq_true, at0, at1, at2, at3, Nat.zero_add, Nat.reduceLT, Nat.reduceSub, not_true_eq_false, not_false_eq_true, oi_tup, oi_lst, oi_pr, oi_call, oi_slc, oi_fz, oi_ite, oi_comp, oi_c, oi_g, sq_str, sq_lst, sq_tup, ss_str, ss_lst, ss_scr, ss_tup, al_nil, al_cons, ifx_rng, ifx_fro, ifx_slot, ifx_slotT, isI_int, ne_eq, Int.reduceEq, Int.reduceNeg, Int.reduceLT, Int.reduceLE]
    exact ⟨by simp [d18], p, rfl, by simp [d18, outE], hp, hk⟩
theorem lmatches_ok (h : P 19 = some d19) (a p : List Nat) (hb : p.length = a.length) (hn : a.length ≤ 1000) :
    (gam P (k + 1)).run 19 [.str a, .str p] = .ok (.bl (matS a p)) [.str a, .str p] := by
  rw [run_eq h rfl (by decide) (by decide)]
  refine fl_of ?_
  show OS _ (execs (gam P k) [_] [0, 1] [_, _, .hole])
  have l1 : a.length ≤ lim := by unfold lim; omega
  have l2 : p.length ≤ lim := by unfold lim; omega
  have p_in2 : ∀ {x y z : List Nat} {o : Bool}, prim .inn [.str x, .nd .tup o [.str y, .str z]] = some (.bl (decide (y = x) || decide (z = x))) := by
    intro x y z o
    have e : prim .inn [.str x, .nd .tup o [.str y, .str z]] = some (D.bl ((y == x) || ((z == x) || false))) := by
      match x with
      | [] => rfl
      | [_] => rfl
      | _ :: _ :: _ => rfl
    rw [e]
    by_cases c1 : y = x <;> by_cases c2 : z = x <;> simp [c1, c2]
  simp only [ok_c, ok_g, ok_v, ok_mv, ok_pr, ok_fz, ok_and, ok_or, ok_not, NB_bl, ok_ite, ok_chn, ok_lst', ok_tup', ok_call, ok_mut, ok_slcv, oa_nil, oa_v, oa_c, oa_g, oa_pr, oa_mv, oa_and, oa_or, oa_not, oa_fz, oa_chn, oa_slc, oa_ite, oa_call, oa_mut, oa_lst, oa_tup, oa_comp, or_nil, or_rf, or_v, or_c, or_g, or_pr, or_mv, or_and, or_or, or_not, or_fz, or_chn, or_slc, or_ite, or_call, or_mut, or_lst, or_tup, or_comp, reduceCtorEq, os_nil, os_cons, os_asg, os_unp, os_exs, os_aug, os_ife, os_ret, os_retN, os_rse, os_brk, os_cnt, os_pas, os_kil, os_asgP, os_fors, oi_rng1, oi_rng2, oi_v, IN_int, IN2_int, SL_int, OK_ok, OS_nx, OS_rt, OS_bk, OS_ct, SM_some, SM_if, SM_map, SM_bind, BR_bl, Cn.d, List.getElem?_cons_zero, List.getElem?_cons_succ, sl_z, sl_s, hoi, hos, hob, hon, hod, fzi, fzs, fzb, p_add, p_adds, p_sub, p_mul, p_fdiv, p_mod, p_pow, p_neg, p_lt, p_le, p_gt, p_ge, p_eqi, p_eqs, p_nei, p_nes, p_idx, p_lenS, p_lenL, p_lenT, p_lenC, p_abs, p_intb, idxL, idxC, idxT, idxS, Bool.not_false, Bool.not_true, true_and, and_true, decide_eq_true_eq, List.set_cons_zero, List.set_cons_succ, ok_fin, ok_finx, rf_nil, rf_rf, pb_nil, pb_rf, rf_c, pb_c, rf_g, pb_g, rf_pr, pb_pr, rf_mv, pb_mv, rf_and, pb_and, rf_or, pb_or, rf_not, pb_not, rf_fz, pb_fz, rf_chn, pb_chn, rf_slc, pb_slc, rf_ite, pb_ite, rf_call, pb_call, rf_mut, pb_mut, rf_lst, pb_lst, rf_tup, pb_tup, rf_comp, pb_comp, rf_v, pb_v, frz_nd, frz_i, frz_s, frz_b, frz_n, frzs_n, frzs_c, frzs_int, frzs_str, fzd, fzn, nh_nil, nh_cons, ao_nil, ao_cons, ct_nil, ct_cons, List.length_cons, List.length_nil, Nat.reduceAdd, Nat.reduceLeDiff, Nat.reduceBEq, Bool.and_self, Bool.true_and, Bool.and_true, Bool.false_or, Bool.or_false, Bool.or_self, decide_true, decide_false, if_true, if_false, reduceIte, Bool.false_eq_true, at0, at1, at2, at3, Nat.zero_add, Nat.reduceLT, Nat.reduceSub, not_true_eq_false, not_false_eq_true, oi_tup, oi_lst, oi_pr, oi_call, oi_slc, oi_fz, oi_ite, oi_comp, oi_c, oi_g, sq_str, sq_lst, sq_tup, ss_str, ss_lst, ss_scr, ss_tup, al_nil, al_cons, ifx_rng, ifx_fro, ifx_slot, ifx_slotT, isI_int, ne_eq, Int.reduceEq, Int.reduceNeg, Int.reduceLT, Int.reduceLE]
  refine comp_rng (n := p.length) (fun j => .bl (decide (ch p j = 45) || decide (ch p j = ch a j))) (by omega) rfl ?_ (fun j hj => ?_) ?_
  · simp only [ok_c, ok_g, ok_v, ok_mv, ok_pr, ok_fz, ok_and, ok_or, ok_not, NB_bl, ok_ite, ok_chn, ok_lst', ok_tup', ok_call, ok_mut, ok_slcv, oa_nil, oa_v, oa_c, oa_g, oa_pr, oa_mv, oa_and, oa_or, oa_not, oa_fz, oa_chn, oa_slc, oa_ite, oa_call, oa_mut, oa_lst, oa_tup, oa_comp, or_nil, or_rf, or_v, or_c, or_g, or_pr, or_mv, or_and, or_or, or_not, or_fz, or_chn, or_slc, or_ite, or_call, or_mut, or_lst, or_tup, or_comp, reduceCtorEq, os_nil, os_cons, os_asg, os_unp, os_exs, os_aug, os_ife, os_ret, os_retN, os_rse, os_brk, os_cnt, os_pas, os_kil, os_asgP, os_fors, oi_rng1, oi_rng2, oi_v, IN_int, IN2_int, SL_int, OK_ok, OS_nx, OS_rt, OS_bk, OS_ct, SM_some, SM_if, SM_map, SM_bind, BR_bl, Cn.d, List.getElem?_cons_zero, List.getElem?_cons_succ, sl_z, sl_s, hoi, hos, hob, hon, hod, fzi, fzs, fzb, p_add, p_adds, p_sub, p_mul, p_fdiv, p_mod, p_pow, p_neg, p_lt, p_le, p_gt, p_ge, p_eqi, p_eqs, p_nei, p_nes, p_idx, p_lenS, p_lenL, p_lenT, p_lenC, p_abs, p_intb, idxL, idxC, idxT, idxS, Bool.not_false, Bool.not_true, true_and, and_true, decide_eq_true_eq, List.set_cons_zero, List.set_cons_succ, ok_fin, ok_finx, rf_nil, rf_rf, pb_nil, pb_rf, rf_c, pb_c, rf_g, pb_g, rf_pr, pb_pr, rf_mv, pb_mv, rf_and, pb_and, rf_or, pb_or, rf_not, pb_not, rf_fz, pb_fz, rf_chn, pb_chn, rf_slc, pb_slc, rf_ite, pb_ite, rf_call, pb_call, rf_mut, pb_mut, rf_lst, pb_lst, rf_tup, pb_tup, rf_comp, pb_comp, rf_v, pb_v, frz_nd, frz_i, frz_s, frz_b, frz_n, frzs_n, frzs_c, frzs_int, frzs_str, fzd, fzn, nh_nil, nh_cons, ao_nil, ao_cons, ct_nil, ct_cons, List.length_cons, List.length_nil, Nat.reduceAdd, Nat.reduceLeDiff, Nat.reduceBEq, Bool.and_self, Bool.true_and, Bool.and_true, Bool.false_or, Bool.or_false, Bool.or_self, decide_true, decide_false, if_true, if_false, reduceIte, Bool.false_eq_true, at0, at1, at2, at3, Nat.zero_add, Nat.reduceLT, Nat.reduceSub, not_true_eq_false, not_false_eq_true, oi_tup, oi_lst, oi_pr, oi_call, oi_slc, oi_fz, oi_ite, oi_comp, oi_c, oi_g, sq_str, sq_lst, sq_tup, ss_str, ss_lst, ss_scr, ss_tup, al_nil, al_cons, ifx_rng, ifx_fro, ifx_slot, ifx_slotT, isI_int, ne_eq, Int.reduceEq, Int.reduceNeg, Int.reduceLT, Int.reduceLE, l2]
  · simp only [ok_c, ok_g, ok_v, ok_mv, ok_pr, ok_fz, ok_and, ok_or, ok_not, NB_bl, ok_ite, ok_chn, ok_lst', ok_tup', ok_call, ok_mut, ok_slcv, oa_nil, oa_v, oa_c, oa_g, oa_pr, oa_mv, oa_and, oa_or, oa_not, oa_fz, oa_chn, oa_slc, oa_ite, oa_call, oa_mut, oa_lst, oa_tup, oa_comp, or_nil, or_rf, or_v, or_c, or_g, or_pr, or_mv, or_and, or_or, or_not, or_fz, or_chn, or_slc, or_ite, or_call, or_mut, or_lst, or_tup, or_comp, reduceCtorEq, os_nil, os_cons, os_asg, os_unp, os_exs, os_aug, os_ife, os_ret, os_retN, os_rse, os_brk, os_cnt, os_pas, os_kil, os_asgP, os_fors, oi_rng1, oi_rng2, oi_v, IN_int, IN2_int, SL_int, OK_ok, OS_nx, OS_rt, OS_bk, OS_ct, SM_some, SM_if, SM_map, SM_bind, BR_bl, Cn.d, List.getElem?_cons_zero, List.getElem?_cons_succ, sl_z, sl_s, hoi, hos, hob, hon, hod, fzi, fzs, fzb, p_add, p_adds, p_sub, p_mul, p_fdiv, p_mod, p_pow, p_neg, p_lt, p_le, p_gt, p_ge, p_eqi, p_eqs, p_nei, p_nes, p_idx, p_lenS, p_lenL, p_lenT, p_lenC, p_abs, p_intb, idxL, idxC, idxT, idxS, Bool.not_false, Bool.not_true, true_and, and_true, decide_eq_true_eq, List.set_cons_zero, List.set_cons_succ, ok_fin, ok_finx, rf_nil, rf_rf, pb_nil, pb_rf, rf_c, pb_c, rf_g, pb_g, rf_pr, pb_pr, rf_mv, pb_mv, rf_and, pb_and, rf_or, pb_or, rf_not, pb_not, rf_fz, pb_fz, rf_chn, pb_chn, rf_slc, pb_slc, rf_ite, pb_ite, rf_call, pb_call, rf_mut, pb_mut, rf_lst, pb_lst, rf_tup, pb_tup, rf_comp, pb_comp, rf_v, pb_v, frz_nd, frz_i, frz_s, frz_b, frz_n, frzs_n, frzs_c, frzs_int, frzs_str, fzd, fzn, nh_nil, nh_cons, ao_nil, ao_cons, ct_nil, ct_cons, List.length_cons, List.length_nil, Nat.reduceAdd, Nat.reduceLeDiff, Nat.reduceBEq, Bool.and_self, Bool.true_and, Bool.and_true, Bool.false_or, Bool.or_false, Bool.or_self, decide_true, decide_false, if_true, if_false, reduceIte, Bool.false_eq_true, at0, at1, at2, at3, Nat.zero_add, Nat.reduceLT, Nat.reduceSub, not_true_eq_false, not_false_eq_true, oi_tup, oi_lst, oi_pr, oi_call, oi_slc, oi_fz, oi_ite, oi_comp, oi_c, oi_g, sq_str, sq_lst, sq_tup, ss_str, ss_lst, ss_scr, ss_tup, al_nil, al_cons, ifx_rng, ifx_fro, ifx_slot, ifx_slotT, isI_int, ne_eq, Int.reduceEq, Int.reduceNeg, Int.reduceLT, Int.reduceLE, atC hj, atC (show j < a.length by omega), l1, l2, p_in2, sgl, eq_comm]
  · rw [hb, show ((List.range a.length).map fun j => D.bl (decide (ch p j = 45) || decide (ch p j = ch a j))) = ((List.range a.length).map fun j => (decide (ch p j = 45) || decide (ch p j = ch a j))).map D.bl by rw [List.map_map]; rfl, p_all]
    simp only [ok_c, ok_g, ok_v, ok_mv, ok_pr, ok_fz, ok_and, ok_or, ok_not, NB_bl, ok_ite, ok_chn, ok_lst', ok_tup', ok_call, ok_mut, ok_slcv, oa_nil, oa_v, oa_c, oa_g, oa_pr, oa_mv, oa_and, oa_or, oa_not, oa_fz, oa_chn, oa_slc, oa_ite, oa_call, oa_mut, oa_lst, oa_tup, oa_comp, or_nil, or_rf, or_v, or_c, or_g, or_pr, or_mv, or_and, or_or, or_not, or_fz, or_chn, or_slc, or_ite, or_call, or_mut, or_lst, or_tup, or_comp, reduceCtorEq, os_nil, os_cons, os_asg, os_unp, os_exs, os_aug, os_ife, os_ret, os_retN, os_rse, os_brk, os_cnt, os_pas, os_kil, os_asgP, os_fors, oi_rng1, oi_rng2, oi_v, IN_int, IN2_int, SL_int, OK_ok, OS_nx, OS_rt, OS_bk, OS_ct, SM_some, SM_if, SM_map, SM_bind, BR_bl, Cn.d, List.getElem?_cons_zero, List.getElem?_cons_succ, sl_z, sl_s, hoi, hos, hob, hon, hod, fzi, fzs, fzb, p_add, p_adds, p_sub, p_mul, p_fdiv, p_mod, p_pow, p_neg, p_lt, p_le, p_gt, p_ge, p_eqi, p_eqs, p_nei, p_nes, p_idx, p_lenS, p_lenL, p_lenT, p_lenC, p_abs, p_intb, idxL, idxC, idxT, idxS, Bool.not_false, Bool.not_true, true_and, and_true, decide_eq_true_eq, List.set_cons_zero, List.set_cons_succ, ok_fin, ok_finx, rf_nil, rf_rf, pb_nil, pb_rf, rf_c, pb_c, rf_g, pb_g, rf_pr, pb_pr, rf_mv, pb_mv, rf_and, pb_and, rf_or, pb_or, rf_not, pb_not, rf_fz, pb_fz, rf_chn, pb_chn, rf_slc, pb_slc, rf_ite, pb_ite, rf_call, pb_call, rf_mut, pb_mut, rf_lst, pb_lst, rf_tup, pb_tup, rf_comp, pb_comp, rf_v, pb_v, frz_nd, frz_i, frz_s, frz_b, frz_n, frzs_n, frzs_c, frzs_int, frzs_str, fzd, fzn, nh_nil, nh_cons, ao_nil, ao_cons, ct_nil, ct_cons, List.length_cons, List.length_nil, Nat.reduceAdd, Nat.reduceLeDiff, Nat.reduceBEq, Bool.and_self, Bool.true_and, Bool.and_true, Bool.false_or, Bool.or_false, Bool.or_self, decide_true, decide_false, if_true, if_false, reduceIte, Bool.false_eq_true, at0, at1, at2, at3, Nat.zero_add, Nat.reduceLT, Nat.reduceSub, not_true_eq_false, not_false_eq_true, oi_tup, oi_lst, oi_pr, oi_call, oi_slc, oi_fz, oi_ite, oi_comp, oi_c, oi_g, sq_str, sq_lst, sq_tup, ss_str, ss_lst, ss_scr, ss_tup, al_nil, al_cons, ifx_rng, ifx_fro, ifx_slot, ifx_slotT, isI_int, ne_eq, Int.reduceEq, Int.reduceNeg, Int.reduceLT, Int.reduceLE]
    refine ⟨?_, by simp [d19], by simp [d19, outE]⟩
    rw [List.all_map]
    rfl
end
end Wap
set_option Elab.async false
set_option linter.all false
set_option maxRecDepth 100000
set_option maxHeartbeats 400000
/-! S14: the law of three rows. -/
namespace Wap
open PySem L2
theorem yn_ch {r : List Nat} (h : YN r) {j : Nat} (hj : j < r.length) : ch r j = 110 ∨ ch r j = 121 := by
  have e : ch r j = r[j] := by simp [ch, hj]
  rw [e]
  exact h _ (List.getElem_mem hj)
theorem rep_flat {α : Type} (a : α) (n : Nat) : (List.replicate n [a]).flatten = List.replicate n a := by
  induction n with
  | zero => rfl
  | succ n ih => rw [List.replicate_succ, List.flatten_cons, ih]; rfl
def lgoS (a b c : List Nat) : List Nat := (List.range a.length).map fun k => if ch b k = ch c k then ch b k else ch a k
theorem go_any {a b c x y z : List Nat} {n : Nat} (ha : a.length = n) (hx : x.length = n) (h : ∀ k, k < n → goC (ch x k) (ch y k) (ch z k) = if ch b k = ch c k then ch b k else ch a k) : goS x y z = lgoS a b c := by
  unfold goS lgoS
  rw [ha, hx]
  apply List.map_congr_left
  intro k hk
  exact h k (by simpa using hk)
theorem Pl_str (l : List (List Nat)) (o : Bool) (h : l.length ≤ 10000) : Pl 1 (.nd .lst o (l.map .str)) = true := by
  simp only [Pl, List.length_map, h, decide_true, Bool.true_and, List.all_map, List.all_eq_true]
  intro v _
  simp [fz, Pl]
theorem Pl_nat (l : List Nat) (o : Bool) (h : l.length ≤ 10000) : Pl 1 (.nd .lst o (l.map fun j => .int (j : Nat))) = true := by
  simp only [Pl, List.length_map, h, decide_true, Bool.true_and, List.all_map, List.all_eq_true]
  intro v _
  simp [fz, Pl]
theorem frzs_nat (l : List Nat) : frzs (l.map fun j => .int (j : Nat)) = l.map fun j => .int (j : Nat) := by
  rw [frzs_eq, List.map_map]
  apply List.map_congr_left
  intro v _
  exact frz_i
section
variable {P : Nat → Option Dfn} {k : Nat}
theorem law02 (h1 : P 1 = some d1) (h2 : P 2 = some d2) (h3 : P 3 = some d3) (h4 : P 4 = some d4) (h5 : P 5 = some d5) (h6 : P 6 = some d6) (h7 : P 7 = some d7) (h8 : P 8 = some d8) (h9 : P 9 = some d9) (h10 : P 10 = some d10) (h14 : P 14 = some d14) (h15 : P 15 = some d15) (h16 : P 16 = some d16) (h17 : P 17 = some d17) (h18 : P 18 = some d18) (h19 : P 19 = some d19) (h20 : P 20 = some d20) (ns : List Int) (h : ns.length ≤ 63) :
    ∃ outs, (gam P 7).run 20 [.nd .scr false (ns.map .int)] = .ok (.bl true) outs := by
  rw [run_eq h20 rfl (by decide) (by decide)]
  suffices h : ∃ d outs, flOut d20.fx d20.np (execs (gam P 6) d20.body d20.fx (startE d20.ns [.nd .scr false (ns.map .int)])) = .ok d outs ∧ d = .bl true by
    obtain ⟨d, outs, h1, rfl⟩ := h
    exact ⟨outs, h1⟩
  refine fl_ex ?_
  show OS _ (execs (gam P 6) [_, _, _, _, _] [] [_, .hole, .hole, .hole, .hole, .hole, .hole, .hole, .hole, .hole, .hole])
  have hm := cutL_len ns none (some 63)
  refine os_seq (fun e => e = [.nd .lst false ((cutL ns none (some 63)).map .int), .hole, .hole, .hole, .hole, .hole, .hole, .hole, .hole, .hole, .hole]) ?_ fun e he => ?_
  · simp only [ok_c, ok_g, ok_v, ok_mv, ok_pr, ok_fz, ok_and, ok_or, ok_not, NB_bl, ok_ite, ok_chn, ok_lst', ok_tup', ok_call, ok_mut, ok_slcv, oa_nil, oa_v, oa_c, oa_g, oa_pr, oa_mv, oa_and, oa_or, oa_not, oa_fz, oa_chn, oa_slc, oa_ite, oa_call, oa_mut, oa_lst, oa_tup, oa_comp, or_nil, or_rf, or_v, or_c, or_g, or_pr, or_mv, or_and, or_or, or_not, or_fz, or_chn, or_slc, or_ite, or_call, or_mut, or_lst, or_tup, or_comp, reduceCtorEq, os_nil, os_cons, os_asg, os_unp, os_exs, os_aug, os_ife, os_ret, os_retN, os_rse, os_brk, os_cnt, os_pas, os_kil, os_asgP, os_fors, oi_rng1, oi_rng2, oi_v, IN_int, IN2_int, SL_int, OK_ok, OS_nx, OS_rt, OS_bk, OS_ct, SM_some, SM_if, SM_map, SM_bind, BR_bl, Cn.d, List.getElem?_cons_zero, List.getElem?_cons_succ, sl_z, sl_s, hoi, hos, hob, hon, hod, fzi, fzs, fzb, p_add, p_adds, p_sub, p_mul, p_fdiv, p_mod, p_pow, p_neg, p_lt, p_le, p_gt, p_ge, p_eqi, p_eqs, p_nei, p_nes, p_idx, p_lenS, p_lenL, p_lenT, p_lenC, p_abs, p_intb, idxL, idxC, idxT, idxS, Bool.not_false, Bool.not_true, true_and, and_true, decide_eq_true_eq, List.set_cons_zero, List.set_cons_succ, ok_fin, ok_finx, rf_nil, rf_rf, pb_nil, pb_rf, rf_c, pb_c, rf_g, pb_g, rf_pr, pb_pr, rf_mv, pb_mv, rf_and, pb_and, rf_or, pb_or, rf_not, pb_not, rf_fz, pb_fz, rf_chn, pb_chn, rf_slc, pb_slc, rf_ite, pb_ite, rf_call, pb_call, rf_mut, pb_mut, rf_lst, pb_lst, rf_tup, pb_tup, rf_comp, pb_comp, rf_v, pb_v, frz_nd, frz_i, frz_s, frz_b, frz_n, frzs_n, frzs_c, frzs_int, frzs_str, fzd, fzn, nh_nil, nh_cons, ao_nil, ao_cons, ct_nil, ct_cons, List.length_cons, List.length_nil, Nat.reduceAdd, Nat.reduceLeDiff, Nat.reduceBEq, Bool.and_self, Bool.true_and, Bool.and_true, Bool.false_or, Bool.or_false, Bool.or_self, decide_true, decide_false, if_true, if_false, reduceIte, Bool.false_eq_true, at0, at1, at2, at3, Nat.zero_add, Nat.reduceLT, Nat.reduceSub, not_true_eq_false, not_false_eq_true, oi_tup, oi_lst, oi_pr, oi_call, oi_slc, oi_fz, oi_ite, oi_comp, oi_c, oi_g, sq_str, sq_lst, sq_tup, ss_str, ss_lst, ss_scr, ss_tup, al_nil, al_cons, ifx_rng, ifx_fro, ifx_slot, ifx_slotT, isI_int, ne_eq, Int.reduceEq, Int.reduceNeg, Int.reduceLT, Int.reduceLE, p_slBC]
  subst he
  generalize cutL ns none (some 63) = ms at *
  have hc0 : (gam P 6).run 1 [.nd .lst false (ms.map .int), .int 0] = .ok (.int (ms.getD 0 0)) [.nd .lst false (ms.map .int), .int 0] := cell_ok h1 false ms 0
  have hc1 : (gam P 6).run 1 [.nd .lst false (ms.map .int), .int 1] = .ok (.int (ms.getD 1 0)) [.nd .lst false (ms.map .int), .int 1] := cell_ok h1 false ms 1
  obtain ⟨n, n1, n12, hn⟩ := count_ok (k := 4) h2 h4 (ms.getD 0 0)
  have hm2 := cutL_len ms (some 2) none
  refine os_seq (fun e => e = [.nd .lst false (ms.map .int), .int n, .hole, .hole, .hole, .hole, .hole, .hole, .hole, .hole, .hole]) ?_ fun e he => ?_
  · simp only [ok_c, ok_g, ok_v, ok_mv, ok_pr, ok_fz, ok_and, ok_or, ok_not, NB_bl, ok_ite, ok_chn, ok_lst', ok_tup', ok_call, ok_mut, ok_slcv, oa_nil, oa_v, oa_c, oa_g, oa_pr, oa_mv, oa_and, oa_or, oa_not, oa_fz, oa_chn, oa_slc, oa_ite, oa_call, oa_mut, oa_lst, oa_tup, oa_comp, or_nil, or_rf, or_v, or_c, or_g, or_pr, or_mv, or_and, or_or, or_not, or_fz, or_chn, or_slc, or_ite, or_call, or_mut, or_lst, or_tup, or_comp, reduceCtorEq, os_nil, os_cons, os_asg, os_unp, os_exs, os_aug, os_ife, os_ret, os_retN, os_rse, os_brk, os_cnt, os_pas, os_kil, os_asgP, os_fors, oi_rng1, oi_rng2, oi_v, IN_int, IN2_int, SL_int, OK_ok, OS_nx, OS_rt, OS_bk, OS_ct, SM_some, SM_if, SM_map, SM_bind, BR_bl, Cn.d, List.getElem?_cons_zero, List.getElem?_cons_succ, sl_z, sl_s, hoi, hos, hob, hon, hod, fzi, fzs, fzb, p_add, p_adds, p_sub, p_mul, p_fdiv, p_mod, p_pow, p_neg, p_lt, p_le, p_gt, p_ge, p_eqi, p_eqs, p_nei, p_nes, p_idx, p_lenS, p_lenL, p_lenT, p_lenC, p_abs, p_intb, idxL, idxC, idxT, idxS, Bool.not_false, Bool.not_true, true_and, and_true, decide_eq_true_eq, List.set_cons_zero, List.set_cons_succ, ok_fin, ok_finx, rf_nil, rf_rf, pb_nil, pb_rf, rf_c, pb_c, rf_g, pb_g, rf_pr, pb_pr, rf_mv, pb_mv, rf_and, pb_and, rf_or, pb_or, rf_not, pb_not, rf_fz, pb_fz, rf_chn, pb_chn, rf_slc, pb_slc, rf_ite, pb_ite, rf_call, pb_call, rf_mut, pb_mut, rf_lst, pb_lst, rf_tup, pb_tup, rf_comp, pb_comp, rf_v, pb_v, frz_nd, frz_i, frz_s, frz_b, frz_n, frzs_n, frzs_c, frzs_int, frzs_str, fzd, fzn, nh_nil, nh_cons, ao_nil, ao_cons, ct_nil, ct_cons, List.length_cons, List.length_nil, Nat.reduceAdd, Nat.reduceLeDiff, Nat.reduceBEq, Bool.and_self, Bool.true_and, Bool.and_true, Bool.false_or, Bool.or_false, Bool.or_self, decide_true, decide_false, if_true, if_false, reduceIte, Bool.false_eq_true, at0, at1, at2, at3, Nat.zero_add, Nat.reduceLT, Nat.reduceSub, not_true_eq_false, not_false_eq_true, oi_tup, oi_lst, oi_pr, oi_call, oi_slc, oi_fz, oi_ite, oi_comp, oi_c, oi_g, sq_str, sq_lst, sq_tup, ss_str, ss_lst, ss_scr, ss_tup, al_nil, al_cons, ifx_rng, ifx_fro, ifx_slot, ifx_slotT, isI_int, ne_eq, Int.reduceEq, Int.reduceNeg, Int.reduceLT, Int.reduceLE, hc0, hn]
  subst he
  obtain ⟨rows, hrows, lrows, yrows⟩ := rows_ok (k := 3) h2 h5 h6 h7 h8 h9 h10 (cutL ms (some 2) none ++ [3, 5]) (ms.getD 1 0) n n1 (by omega) (by simp; omega)
  refine os_seq (fun e => e = [.nd .lst false (ms.map .int), .int n, .nd .lst false (rows.map .str), .hole, .hole, .hole, .hole, .hole, .hole, .hole, .hole]) ?_ fun e he => ?_
  · simp only [ok_c, ok_g, ok_v, ok_mv, ok_pr, ok_fz, ok_and, ok_or, ok_not, NB_bl, ok_ite, ok_chn, ok_lst', ok_tup', ok_call, ok_mut, ok_slcv, oa_nil, oa_v, oa_c, oa_g, oa_pr, oa_mv, oa_and, oa_or, oa_not, oa_fz, oa_chn, oa_slc, oa_ite, oa_call, oa_mut, oa_lst, oa_tup, oa_comp, or_nil, or_rf, or_v, or_c, or_g, or_pr, or_mv, or_and, or_or, or_not, or_fz, or_chn, or_slc, or_ite, or_call, or_mut, or_lst, or_tup, or_comp, reduceCtorEq, os_nil, os_cons, os_asg, os_unp, os_exs, os_aug, os_ife, os_ret, os_retN, os_rse, os_brk, os_cnt, os_pas, os_kil, os_asgP, os_fors, oi_rng1, oi_rng2, oi_v, IN_int, IN2_int, SL_int, OK_ok, OS_nx, OS_rt, OS_bk, OS_ct, SM_some, SM_if, SM_map, SM_bind, BR_bl, Cn.d, List.getElem?_cons_zero, List.getElem?_cons_succ, sl_z, sl_s, hoi, hos, hob, hon, hod, fzi, fzs, fzb, p_add, p_adds, p_sub, p_mul, p_fdiv, p_mod, p_pow, p_neg, p_lt, p_le, p_gt, p_ge, p_eqi, p_eqs, p_nei, p_nes, p_idx, p_lenS, p_lenL, p_lenT, p_lenC, p_abs, p_intb, idxL, idxC, idxT, idxS, Bool.not_false, Bool.not_true, true_and, and_true, decide_eq_true_eq, List.set_cons_zero, List.set_cons_succ, ok_fin, ok_finx, rf_nil, rf_rf, pb_nil, pb_rf, rf_c, pb_c, rf_g, pb_g, rf_pr, pb_pr, rf_mv, pb_mv, rf_and, pb_and, rf_or, pb_or, rf_not, pb_not, rf_fz, pb_fz, rf_chn, pb_chn, rf_slc, pb_slc, rf_ite, pb_ite, rf_call, pb_call, rf_mut, pb_mut, rf_lst, pb_lst, rf_tup, pb_tup, rf_comp, pb_comp, rf_v, pb_v, frz_nd, frz_i, frz_s, frz_b, frz_n, frzs_n, frzs_c, frzs_int, frzs_str, fzd, fzn, nh_nil, nh_cons, ao_nil, ao_cons, ct_nil, ct_cons, List.length_cons, List.length_nil, Nat.reduceAdd, Nat.reduceLeDiff, Nat.reduceBEq, Bool.and_self, Bool.true_and, Bool.and_true, Bool.false_or, Bool.or_false, Bool.or_self, decide_true, decide_false, if_true, if_false, reduceIte, Bool.false_eq_true, at0, at1, at2, at3, Nat.zero_add, Nat.reduceLT, Nat.reduceSub, not_true_eq_false, not_false_eq_true, oi_tup, oi_lst, oi_pr, oi_call, oi_slc, oi_fz, oi_ite, oi_comp, oi_c, oi_g, sq_str, sq_lst, sq_tup, ss_str, ss_lst, ss_scr, ss_tup, al_nil, al_cons, ifx_rng, ifx_fro, ifx_slot, ifx_slotT, isI_int, ne_eq, Int.reduceEq, Int.reduceNeg, Int.reduceLT, Int.reduceLE, p_slAI]
    rw [show [D.int 3, .int 5] = List.map D.int [3, 5] from rfl, p_addI (by simp [lim]; omega)]
    simp only [ok_c, ok_g, ok_v, ok_mv, ok_pr, ok_fz, ok_and, ok_or, ok_not, NB_bl, ok_ite, ok_chn, ok_lst', ok_tup', ok_call, ok_mut, ok_slcv, oa_nil, oa_v, oa_c, oa_g, oa_pr, oa_mv, oa_and, oa_or, oa_not, oa_fz, oa_chn, oa_slc, oa_ite, oa_call, oa_mut, oa_lst, oa_tup, oa_comp, or_nil, or_rf, or_v, or_c, or_g, or_pr, or_mv, or_and, or_or, or_not, or_fz, or_chn, or_slc, or_ite, or_call, or_mut, or_lst, or_tup, or_comp, reduceCtorEq, os_nil, os_cons, os_asg, os_unp, os_exs, os_aug, os_ife, os_ret, os_retN, os_rse, os_brk, os_cnt, os_pas, os_kil, os_asgP, os_fors, oi_rng1, oi_rng2, oi_v, IN_int, IN2_int, SL_int, OK_ok, OS_nx, OS_rt, OS_bk, OS_ct, SM_some, SM_if, SM_map, SM_bind, BR_bl, Cn.d, List.getElem?_cons_zero, List.getElem?_cons_succ, sl_z, sl_s, hoi, hos, hob, hon, hod, fzi, fzs, fzb, p_add, p_adds, p_sub, p_mul, p_fdiv, p_mod, p_pow, p_neg, p_lt, p_le, p_gt, p_ge, p_eqi, p_eqs, p_nei, p_nes, p_idx, p_lenS, p_lenL, p_lenT, p_lenC, p_abs, p_intb, idxL, idxC, idxT, idxS, Bool.not_false, Bool.not_true, true_and, and_true, decide_eq_true_eq, List.set_cons_zero, List.set_cons_succ, ok_fin, ok_finx, rf_nil, rf_rf, pb_nil, pb_rf, rf_c, pb_c, rf_g, pb_g, rf_pr, pb_pr, rf_mv, pb_mv, rf_and, pb_and, rf_or, pb_or, rf_not, pb_not, rf_fz, pb_fz, rf_chn, pb_chn, rf_slc, pb_slc, rf_ite, pb_ite, rf_call, pb_call, rf_mut, pb_mut, rf_lst, pb_lst, rf_tup, pb_tup, rf_comp, pb_comp, rf_v, pb_v, frz_nd, frz_i, frz_s, frz_b, frz_n, frzs_n, frzs_c, frzs_int, frzs_str, fzd, fzn, nh_nil, nh_cons, ao_nil, ao_cons, ct_nil, ct_cons, List.length_cons, List.length_nil, Nat.reduceAdd, Nat.reduceLeDiff, Nat.reduceBEq, Bool.and_self, Bool.true_and, Bool.and_true, Bool.false_or, Bool.or_false, Bool.or_self, decide_true, decide_false, if_true, if_false, reduceIte, Bool.false_eq_true, at0, at1, at2, at3, Nat.zero_add, Nat.reduceLT, Nat.reduceSub, not_true_eq_false, not_false_eq_true, oi_tup, oi_lst, oi_pr, oi_call, oi_slc, oi_fz, oi_ite, oi_comp, oi_c, oi_g, sq_str, sq_lst, sq_tup, ss_str, ss_lst, ss_scr, ss_tup, al_nil, al_cons, ifx_rng, ifx_fro, ifx_slot, ifx_slotT, isI_int, ne_eq, Int.reduceEq, Int.reduceNeg, Int.reduceLT, Int.reduceLE, hc1, hrows]
  subst he
  have lr : rows.length ≤ 65 ∧ 0 < rows.length := by simp at lrows; omega
  refine os_seq (fun e => ∃ x3 x4 x5 x6 x7 x8 x9, e = [.nd .lst false (ms.map .int), .int n, .nd .lst false (rows.map .str), x3, x4, x5, x6, x7, x8, x9, .hole]) ?_ fun e he => ?_
  rotate_left
  · obtain ⟨x3, x4, x5, x6, x7, x8, x9, rfl⟩ := he
    simp only [ok_c, ok_g, ok_v, ok_mv, ok_pr, ok_fz, ok_and, ok_or, ok_not, NB_bl, ok_ite, ok_chn, ok_lst', ok_tup', ok_call, ok_mut, ok_slcv, oa_nil, oa_v, oa_c, oa_g, oa_pr, oa_mv, oa_and, oa_or, oa_not, oa_fz, oa_chn, oa_slc, oa_ite, oa_call, oa_mut, oa_lst, oa_tup, oa_comp, or_nil, or_rf, or_v, or_c, or_g, or_pr, or_mv, or_and, or_or, or_not, or_fz, or_chn, or_slc, or_ite, or_call, or_mut, or_lst, or_tup, or_comp, reduceCtorEq, os_nil, os_cons, os_asg, os_unp, os_exs, os_aug, os_ife, os_ret, os_retN, os_rse, os_brk, os_cnt, os_pas, os_kil, os_asgP, os_fors, oi_rng1, oi_rng2, oi_v, IN_int, IN2_int, SL_int, OK_ok, OS_nx, OS_rt, OS_bk, OS_ct, SM_some, SM_if, SM_map, SM_bind, BR_bl, Cn.d, List.getElem?_cons_zero, List.getElem?_cons_succ, sl_z, sl_s, hoi, hos, hob, hon, hod, fzi, fzs, fzb, p_add, p_adds, p_sub, p_mul, p_fdiv, p_mod, p_pow, p_neg, p_lt, p_le, p_gt, p_ge, p_eqi, p_eqs, p_nei, p_nes, p_idx, p_lenS, p_lenL, p_lenT, p_lenC, p_abs, p_intb, idxL, idxC, idxT, idxS, Bool.not_false, Bool.not_true, true_and, and_true, decide_eq_true_eq, List.set_cons_zero, List.set_cons_succ, ok_fin, ok_finx, rf_nil, rf_rf, pb_nil, pb_rf, rf_c, pb_c, rf_g, pb_g, rf_pr, pb_pr, rf_mv, pb_mv, rf_and, pb_and, rf_or, pb_or, rf_not, pb_not, rf_fz, pb_fz, rf_chn, pb_chn, rf_slc, pb_slc, rf_ite, pb_ite, rf_call, pb_call, rf_mut, pb_mut, rf_lst, pb_lst, rf_tup, pb_tup, rf_comp, pb_comp, rf_v, pb_v, frz_nd, frz_i, frz_s, frz_b, frz_n, frzs_n, frzs_c, frzs_int, frzs_str, fzd, fzn, nh_nil, nh_cons, ao_nil, ao_cons, ct_nil, ct_cons, List.length_cons, List.length_nil, Nat.reduceAdd, Nat.reduceLeDiff, Nat.reduceBEq, Bool.and_self, Bool.true_and, Bool.and_true, Bool.false_or, Bool.or_false, Bool.or_self, decide_true, decide_false, if_true, if_false, reduceIte, Bool.false_eq_true, at0, at1, at2, at3, Nat.zero_add, Nat.reduceLT, Nat.reduceSub, not_true_eq_false, not_false_eq_true, oi_tup, oi_lst, oi_pr, oi_call, oi_slc, oi_fz, oi_ite, oi_comp, oi_c, oi_g, sq_str, sq_lst, sq_tup, ss_str, ss_lst, ss_scr, ss_tup, al_nil, al_cons, ifx_rng, ifx_fro, ifx_slot, ifx_slotT, isI_int, ne_eq, Int.reduceEq, Int.reduceNeg, Int.reduceLT, Int.reduceLE]
    simp [d20]
  simp only [ok_c, ok_g, ok_v, ok_mv, ok_pr, ok_fz, ok_and, ok_or, ok_not, NB_bl, ok_ite, ok_chn, ok_lst', ok_tup', ok_call, ok_mut, ok_slcv, oa_nil, oa_v, oa_c, oa_g, oa_pr, oa_mv, oa_and, oa_or, oa_not, oa_fz, oa_chn, oa_slc, oa_ite, oa_call, oa_mut, oa_lst, oa_tup, oa_comp, or_nil, or_rf, or_v, or_c, or_g, or_pr, or_mv, or_and, or_or, or_not, or_fz, or_chn, or_slc, or_ite, or_call, or_mut, or_lst, or_tup, or_comp, reduceCtorEq, os_nil, os_cons, os_asg, os_unp, os_exs, os_aug, os_ife, os_ret, os_retN, os_rse, os_brk, os_cnt, os_pas, os_kil, os_asgP, os_fors, oi_rng1, oi_rng2, oi_v, IN_int, IN2_int, SL_int, OK_ok, OS_nx, OS_rt, OS_bk, OS_ct, SM_some, SM_if, SM_map, SM_bind, BR_bl, Cn.d, List.getElem?_cons_zero, List.getElem?_cons_succ, sl_z, sl_s, hoi, hos, hob, hon, hod, fzi, fzs, fzb, p_add, p_adds, p_sub, p_mul, p_fdiv, p_mod, p_pow, p_neg, p_lt, p_le, p_gt, p_ge, p_eqi, p_eqs, p_nei, p_nes, p_idx, p_lenS, p_lenL, p_lenT, p_lenC, p_abs, p_intb, idxL, idxC, idxT, idxS, Bool.not_false, Bool.not_true, true_and, and_true, decide_eq_true_eq, List.set_cons_zero, List.set_cons_succ, ok_fin, ok_finx, rf_nil, rf_rf, pb_nil, pb_rf, rf_c, pb_c, rf_g, pb_g, rf_pr, pb_pr, rf_mv, pb_mv, rf_and, pb_and, rf_or, pb_or, rf_not, pb_not, rf_fz, pb_fz, rf_chn, pb_chn, rf_slc, pb_slc, rf_ite, pb_ite, rf_call, pb_call, rf_mut, pb_mut, rf_lst, pb_lst, rf_tup, pb_tup, rf_comp, pb_comp, rf_v, pb_v, frz_nd, frz_i, frz_s, frz_b, frz_n, frzs_n, frzs_c, frzs_int, frzs_str, fzd, fzn, nh_nil, nh_cons, ao_nil, ao_cons, ct_nil, ct_cons, List.length_cons, List.length_nil, Nat.reduceAdd, Nat.reduceLeDiff, Nat.reduceBEq, Bool.and_self, Bool.true_and, Bool.and_true, Bool.false_or, Bool.or_false, Bool.or_self, decide_true, decide_false, if_true, if_false, reduceIte, Bool.false_eq_true, at0, at1, at2, at3, Nat.zero_add, Nat.reduceLT, Nat.reduceSub, not_true_eq_false, not_false_eq_true, oi_tup, oi_lst, oi_pr, oi_call, oi_slc, oi_fz, oi_ite, oi_comp, oi_c, oi_g, sq_str, sq_lst, sq_tup, ss_str, ss_lst, ss_scr, ss_tup, al_nil, al_cons, ifx_rng, ifx_fro, ifx_slot, ifx_slotT, isI_int, ne_eq, Int.reduceEq, Int.reduceNeg, Int.reduceLT, Int.reduceLE, List.length_map, small_n (show rows.length ≤ 1000000 by omega), Int.toNat_natCast]
  refine loop_rng0 (fun j e => ∃ x3 x4 x5 x6 x7 x8 x9, e = [.nd .lst false (ms.map .int), .int n, .nd .lst false (rows.map .str), x3, x4, x5, x6, x7, x8, x9, .hole]) (by omega) ⟨_, _, _, _, _, _, _, rfl⟩ (fun j e hj he => ?_) (fun e he => he)
  obtain ⟨x3, x4, x5, x6, x7, x8, x9, rfl⟩ := he
  have hcj : (gam P 6).run 1 [.nd .lst false (ms.map .int), .int (2 + (j : Int))] = .ok (.int (ms.getD (2 + j) 0)) [.nd .lst false (ms.map .int), .int (2 + (j : Int))] := cell_ok h1 false ms (2 + j)
  have hd := draws_ok (k := 5) h2 false (ms.getD (2 + j) 0 + 3) [67, 71, 531441] (by decide) (by decide)
  obtain ⟨t0, t1, t2, et⟩ : ∃ t0 t1 t2 : Int, (draws (ms.getD (2 + j) 0 + 3) [67, 71, 531441]).map D.int = [.int t0, .int t1, .int t2] := ⟨_, _, _, rfl⟩
  rw [et] at hd
  have hrow : ∀ i : Nat, i < rows.length → (ch' rows i).length = n ∧ YN (ch' rows i) := fun i hi => yrows _ (by unfold ch'; simp [hi])
  have hat : ∀ i : Nat, i < rows.length → atI (rows.map D.str) (i : Int) = some (.str (ch' rows i)) := fun i hi => by rw [atI_nat]; simp [hi, ch']
  have hmo : ∀ t : Int, ∃ i : Nat, t.fmod rows.length = (i : Int) ∧ i < rows.length := fun t => by
    have := fmod_b t (m := rows.length) (by omega)
    exact ⟨(t.fmod rows.length).toNat, by omega, by omega⟩
  obtain ⟨i0, e0, b0⟩ := hmo t0
  obtain ⟨i1, e1, b1⟩ := hmo t1
  obtain ⟨la, ya⟩ := hrow j hj
  obtain ⟨lb, yb⟩ := hrow i0 b0
  obtain ⟨lc, yc⟩ := hrow i1 b1
  have hatj := hat j hj
  have hat0 := hat i0 b0
  have hat1 := hat i1 b1
  generalize ch' rows j = a at *
  generalize ch' rows i0 = b at *
  generalize ch' rows i1 = c at *
  have hne : ¬ (rows.length : Int) = 0 := by omega
  rw [turn_one]
  refine ⟨rfl, rfl, by simp, ?_⟩
  refine os_seq (fun e => e = [.nd .lst false (ms.map .int), .int n, .nd .lst false (rows.map .str), .int j, .nd .lst false [.int t0, .int t1, .int t2], x5, x6, x7, x8, x9, .hole]) ?_ fun e he => ?_
  · simp only [ok_c, ok_g, ok_v, ok_mv, ok_pr, ok_fz, ok_and, ok_or, ok_not, NB_bl, ok_ite, ok_chn, ok_lst', ok_tup', ok_call, ok_mut, ok_slcv, oa_nil, oa_v, oa_c, oa_g, oa_pr, oa_mv, oa_and, oa_or, oa_not, oa_fz, oa_chn, oa_slc, oa_ite, oa_call, oa_mut, oa_lst, oa_tup, oa_comp, or_nil, or_rf, or_v, or_c, or_g, or_pr, or_mv, or_and, or_or, or_not, or_fz, or_chn, or_slc, or_ite, or_call, or_mut, or_lst, or_tup, or_comp, reduceCtorEq, os_nil, os_cons, os_asg, os_unp, os_exs, os_aug, os_ife, os_ret, os_retN, os_rse, os_brk, os_cnt, os_pas, os_kil, os_asgP, os_fors, oi_rng1, oi_rng2, oi_v, IN_int, IN2_int, SL_int, OK_ok, OS_nx, OS_rt, OS_bk, OS_ct, SM_some, SM_if, SM_map, SM_bind, BR_bl, Cn.d, List.getElem?_cons_zero, List.getElem?_cons_succ, sl_z, sl_s, hoi, hos, hob, hon, hod, fzi, fzs, fzb, p_add, p_adds, p_sub, p_mul, p_fdiv, p_mod, p_pow, p_neg, p_lt, p_le, p_gt, p_ge, p_eqi, p_eqs, p_nei, p_nes, p_idx, p_lenS, p_lenL, p_lenT, p_lenC, p_abs, p_intb, idxL, idxC, idxT, idxS, Bool.not_false, Bool.not_true, true_and, and_true, decide_eq_true_eq, List.set_cons_zero, List.set_cons_succ, ok_fin, ok_finx, rf_nil, rf_rf, pb_nil, pb_rf, rf_c, pb_c, rf_g, pb_g, rf_pr, pb_pr, rf_mv, pb_mv, rf_and, pb_and, rf_or, pb_or, rf_not, pb_not, rf_fz, pb_fz, rf_chn, pb_chn, rf_slc, pb_slc, rf_ite, pb_ite, rf_call, pb_call, rf_mut, pb_mut, rf_lst, pb_lst, rf_tup, pb_tup, rf_comp, pb_comp, rf_v, pb_v, frz_nd, frz_i, frz_s, frz_b, frz_n, frzs_n, frzs_c, frzs_int, frzs_str, fzd, fzn, nh_nil, nh_cons, ao_nil, ao_cons, ct_nil, ct_cons, List.length_cons, List.length_nil, Nat.reduceAdd, Nat.reduceLeDiff, Nat.reduceBEq, Bool.and_self, Bool.true_and, Bool.and_true, Bool.false_or, Bool.or_false, Bool.or_self, decide_true, decide_false, if_true, if_false, reduceIte, Bool.false_eq_true, at0, at1, at2, at3, Nat.zero_add, Nat.reduceLT, Nat.reduceSub, not_true_eq_false, not_false_eq_true, oi_tup, oi_lst, oi_pr, oi_call, oi_slc, oi_fz, oi_ite, oi_comp, oi_c, oi_g, sq_str, sq_lst, sq_tup, ss_str, ss_lst, ss_scr, ss_tup, al_nil, al_cons, ifx_rng, ifx_fro, ifx_slot, ifx_slotT, isI_int, ne_eq, Int.reduceEq, Int.reduceNeg, Int.reduceLT, Int.reduceLE, hcj]
    rw [show [D.int 67, .int 71, .int 531441] = List.map D.int [67, 71, 531441] from rfl, hd]
    simp only [ok_c, ok_g, ok_v, ok_mv, ok_pr, ok_fz, ok_and, ok_or, ok_not, NB_bl, ok_ite, ok_chn, ok_lst', ok_tup', ok_call, ok_mut, ok_slcv, oa_nil, oa_v, oa_c, oa_g, oa_pr, oa_mv, oa_and, oa_or, oa_not, oa_fz, oa_chn, oa_slc, oa_ite, oa_call, oa_mut, oa_lst, oa_tup, oa_comp, or_nil, or_rf, or_v, or_c, or_g, or_pr, or_mv, or_and, or_or, or_not, or_fz, or_chn, or_slc, or_ite, or_call, or_mut, or_lst, or_tup, or_comp, reduceCtorEq, os_nil, os_cons, os_asg, os_unp, os_exs, os_aug, os_ife, os_ret, os_retN, os_rse, os_brk, os_cnt, os_pas, os_kil, os_asgP, os_fors, oi_rng1, oi_rng2, oi_v, IN_int, IN2_int, SL_int, OK_ok, OS_nx, OS_rt, OS_bk, OS_ct, SM_some, SM_if, SM_map, SM_bind, BR_bl, Cn.d, List.getElem?_cons_zero, List.getElem?_cons_succ, sl_z, sl_s, hoi, hos, hob, hon, hod, fzi, fzs, fzb, p_add, p_adds, p_sub, p_mul, p_fdiv, p_mod, p_pow, p_neg, p_lt, p_le, p_gt, p_ge, p_eqi, p_eqs, p_nei, p_nes, p_idx, p_lenS, p_lenL, p_lenT, p_lenC, p_abs, p_intb, idxL, idxC, idxT, idxS, Bool.not_false, Bool.not_true, true_and, and_true, decide_eq_true_eq, List.set_cons_zero, List.set_cons_succ, ok_fin, ok_finx, rf_nil, rf_rf, pb_nil, pb_rf, rf_c, pb_c, rf_g, pb_g, rf_pr, pb_pr, rf_mv, pb_mv, rf_and, pb_and, rf_or, pb_or, rf_not, pb_not, rf_fz, pb_fz, rf_chn, pb_chn, rf_slc, pb_slc, rf_ite, pb_ite, rf_call, pb_call, rf_mut, pb_mut, rf_lst, pb_lst, rf_tup, pb_tup, rf_comp, pb_comp, rf_v, pb_v, frz_nd, frz_i, frz_s, frz_b, frz_n, frzs_n, frzs_c, frzs_int, frzs_str, fzd, fzn, nh_nil, nh_cons, ao_nil, ao_cons, ct_nil, ct_cons, List.length_cons, List.length_nil, Nat.reduceAdd, Nat.reduceLeDiff, Nat.reduceBEq, Bool.and_self, Bool.true_and, Bool.and_true, Bool.false_or, Bool.or_false, Bool.or_self, decide_true, decide_false, if_true, if_false, reduceIte, Bool.false_eq_true, at0, at1, at2, at3, Nat.zero_add, Nat.reduceLT, Nat.reduceSub, not_true_eq_false, not_false_eq_true, oi_tup, oi_lst, oi_pr, oi_call, oi_slc, oi_fz, oi_ite, oi_comp, oi_c, oi_g, sq_str, sq_lst, sq_tup, ss_str, ss_lst, ss_scr, ss_tup, al_nil, al_cons, ifx_rng, ifx_fro, ifx_slot, ifx_slotT, isI_int, ne_eq, Int.reduceEq, Int.reduceNeg, Int.reduceLT, Int.reduceLE]
  subst he
  have g17 := lgo_ok (k := 5) h17 a b c n la lb lc (by omega)
  refine os_seq (fun e => e = [.nd .lst false (ms.map .int), .int n, .nd .lst false (rows.map .str), .int j, .nd .lst false [.int t0, .int t1, .int t2], .str a, x6, x7, x8, x9, .hole]) ?_ fun e he => ?_
  · simp only [ok_c, ok_g, ok_v, ok_mv, ok_pr, ok_fz, ok_and, ok_or, ok_not, NB_bl, ok_ite, ok_chn, ok_lst', ok_tup', ok_call, ok_mut, ok_slcv, oa_nil, oa_v, oa_c, oa_g, oa_pr, oa_mv, oa_and, oa_or, oa_not, oa_fz, oa_chn, oa_slc, oa_ite, oa_call, oa_mut, oa_lst, oa_tup, oa_comp, or_nil, or_rf, or_v, or_c, or_g, or_pr, or_mv, or_and, or_or, or_not, or_fz, or_chn, or_slc, or_ite, or_call, or_mut, or_lst, or_tup, or_comp, reduceCtorEq, os_nil, os_cons, os_asg, os_unp, os_exs, os_aug, os_ife, os_ret, os_retN, os_rse, os_brk, os_cnt, os_pas, os_kil, os_asgP, os_fors, oi_rng1, oi_rng2, oi_v, IN_int, IN2_int, SL_int, OK_ok, OS_nx, OS_rt, OS_bk, OS_ct, SM_some, SM_if, SM_map, SM_bind, BR_bl, Cn.d, List.getElem?_cons_zero, List.getElem?_cons_succ, sl_z, sl_s, hoi, hos, hob, hon, hod, fzi, fzs, fzb, p_add, p_adds, p_sub, p_mul, p_fdiv, p_mod, p_pow, p_neg, p_lt, p_le, p_gt, p_ge, p_eqi, p_eqs, p_nei, p_nes, p_idx, p_lenS, p_lenL, p_lenT, p_lenC, p_abs, p_intb, idxL, idxC, idxT, idxS, Bool.not_false, Bool.not_true, true_and, and_true, decide_eq_true_eq, List.set_cons_zero, List.set_cons_succ, ok_fin, ok_finx, rf_nil, rf_rf, pb_nil, pb_rf, rf_c, pb_c, rf_g, pb_g, rf_pr, pb_pr, rf_mv, pb_mv, rf_and, pb_and, rf_or, pb_or, rf_not, pb_not, rf_fz, pb_fz, rf_chn, pb_chn, rf_slc, pb_slc, rf_ite, pb_ite, rf_call, pb_call, rf_mut, pb_mut, rf_lst, pb_lst, rf_tup, pb_tup, rf_comp, pb_comp, rf_v, pb_v, frz_nd, frz_i, frz_s, frz_b, frz_n, frzs_n, frzs_c, frzs_int, frzs_str, fzd, fzn, nh_nil, nh_cons, ao_nil, ao_cons, ct_nil, ct_cons, List.length_cons, List.length_nil, Nat.reduceAdd, Nat.reduceLeDiff, Nat.reduceBEq, Bool.and_self, Bool.true_and, Bool.and_true, Bool.false_or, Bool.or_false, Bool.or_self, decide_true, decide_false, if_true, if_false, reduceIte, Bool.false_eq_true, at0, at1, at2, at3, Nat.zero_add, Nat.reduceLT, Nat.reduceSub, not_true_eq_false, not_false_eq_true, oi_tup, oi_lst, oi_pr, oi_call, oi_slc, oi_fz, oi_ite, oi_comp, oi_c, oi_g, sq_str, sq_lst, sq_tup, ss_str, ss_lst, ss_scr, ss_tup, al_nil, al_cons, ifx_rng, ifx_fro, ifx_slot, ifx_slotT, isI_int, ne_eq, Int.reduceEq, Int.reduceNeg, Int.reduceLT, Int.reduceLE, hatj]
  subst he
  refine os_seq (fun e => e = [.nd .lst false (ms.map .int), .int n, .nd .lst false (rows.map .str), .int j, .nd .lst false [.int t0, .int t1, .int t2], .str a, .str b, x7, x8, x9, .hole]) ?_ fun e he => ?_
  · simp only [ok_c, ok_g, ok_v, ok_mv, ok_pr, ok_fz, ok_and, ok_or, ok_not, NB_bl, ok_ite, ok_chn, ok_lst', ok_tup', ok_call, ok_mut, ok_slcv, oa_nil, oa_v, oa_c, oa_g, oa_pr, oa_mv, oa_and, oa_or, oa_not, oa_fz, oa_chn, oa_slc, oa_ite, oa_call, oa_mut, oa_lst, oa_tup, oa_comp, or_nil, or_rf, or_v, or_c, or_g, or_pr, or_mv, or_and, or_or, or_not, or_fz, or_chn, or_slc, or_ite, or_call, or_mut, or_lst, or_tup, or_comp, reduceCtorEq, os_nil, os_cons, os_asg, os_unp, os_exs, os_aug, os_ife, os_ret, os_retN, os_rse, os_brk, os_cnt, os_pas, os_kil, os_asgP, os_fors, oi_rng1, oi_rng2, oi_v, IN_int, IN2_int, SL_int, OK_ok, OS_nx, OS_rt, OS_bk, OS_ct, SM_some, SM_if, SM_map, SM_bind, BR_bl, Cn.d, List.getElem?_cons_zero, List.getElem?_cons_succ, sl_z, sl_s, hoi, hos, hob, hon, hod, fzi, fzs, fzb, p_add, p_adds, p_sub, p_mul, p_fdiv, p_mod, p_pow, p_neg, p_lt, p_le, p_gt, p_ge, p_eqi, p_eqs, p_nei, p_nes, p_idx, p_lenS, p_lenL, p_lenT, p_lenC, p_abs, p_intb, idxL, idxC, idxT, idxS, Bool.not_false, Bool.not_true, true_and, and_true, decide_eq_true_eq, List.set_cons_zero, List.set_cons_succ, ok_fin, ok_finx, rf_nil, rf_rf, pb_nil, pb_rf, rf_c, pb_c, rf_g, pb_g, rf_pr, pb_pr, rf_mv, pb_mv, rf_and, pb_and, rf_or, pb_or, rf_not, pb_not, rf_fz, pb_fz, rf_chn, pb_chn, rf_slc, pb_slc, rf_ite, pb_ite, rf_call, pb_call, rf_mut, pb_mut, rf_lst, pb_lst, rf_tup, pb_tup, rf_comp, pb_comp, rf_v, pb_v, frz_nd, frz_i, frz_s, frz_b, frz_n, frzs_n, frzs_c, frzs_int, frzs_str, fzd, fzn, nh_nil, nh_cons, ao_nil, ao_cons, ct_nil, ct_cons, List.length_cons, List.length_nil, Nat.reduceAdd, Nat.reduceLeDiff, Nat.reduceBEq, Bool.and_self, Bool.true_and, Bool.and_true, Bool.false_or, Bool.or_false, Bool.or_self, decide_true, decide_false, if_true, if_false, reduceIte, Bool.false_eq_true, at0, at1, at2, at3, Nat.zero_add, Nat.reduceLT, Nat.reduceSub, not_true_eq_false, not_false_eq_true, oi_tup, oi_lst, oi_pr, oi_call, oi_slc, oi_fz, oi_ite, oi_comp, oi_c, oi_g, sq_str, sq_lst, sq_tup, ss_str, ss_lst, ss_scr, ss_tup, al_nil, al_cons, ifx_rng, ifx_fro, ifx_slot, ifx_slotT, isI_int, ne_eq, Int.reduceEq, Int.reduceNeg, Int.reduceLT, Int.reduceLE, List.length_map, hne, e0, hat0]
  subst he
  refine os_seq (fun e => e = [.nd .lst false (ms.map .int), .int n, .nd .lst false (rows.map .str), .int j, .nd .lst false [.int t0, .int t1, .int t2], .str a, .str b, .str c, x8, x9, .hole]) ?_ fun e he => ?_
  · simp only [ok_c, ok_g, ok_v, ok_mv, ok_pr, ok_fz, ok_and, ok_or, ok_not, NB_bl, ok_ite, ok_chn, ok_lst', ok_tup', ok_call, ok_mut, ok_slcv, oa_nil, oa_v, oa_c, oa_g, oa_pr, oa_mv, oa_and, oa_or, oa_not, oa_fz, oa_chn, oa_slc, oa_ite, oa_call, oa_mut, oa_lst, oa_tup, oa_comp, or_nil, or_rf, or_v, or_c, or_g, or_pr, or_mv, or_and, or_or, or_not, or_fz, or_chn, or_slc, or_ite, or_call, or_mut, or_lst, or_tup, or_comp, reduceCtorEq, os_nil, os_cons, os_asg, os_unp, os_exs, os_aug, os_ife, os_ret, os_retN, os_rse, os_brk, os_cnt, os_pas, os_kil, os_asgP, os_fors, oi_rng1, oi_rng2, oi_v, IN_int, IN2_int, SL_int, OK_ok, OS_nx, OS_rt, OS_bk, OS_ct, SM_some, SM_if, SM_map, SM_bind, BR_bl, Cn.d, List.getElem?_cons_zero, List.getElem?_cons_succ, sl_z, sl_s, hoi, hos, hob, hon, hod, fzi, fzs, fzb, p_add, p_adds, p_sub, p_mul, p_fdiv, p_mod, p_pow, p_neg, p_lt, p_le, p_gt, p_ge, p_eqi, p_eqs, p_nei, p_nes, p_idx, p_lenS, p_lenL, p_lenT, p_lenC, p_abs, p_intb, idxL, idxC, idxT, idxS, Bool.not_false, Bool.not_true, true_and, and_true, decide_eq_true_eq, List.set_cons_zero, List.set_cons_succ, ok_fin, ok_finx, rf_nil, rf_rf, pb_nil, pb_rf, rf_c, pb_c, rf_g, pb_g, rf_pr, pb_pr, rf_mv, pb_mv, rf_and, pb_and, rf_or, pb_or, rf_not, pb_not, rf_fz, pb_fz, rf_chn, pb_chn, rf_slc, pb_slc, rf_ite, pb_ite, rf_call, pb_call, rf_mut, pb_mut, rf_lst, pb_lst, rf_tup, pb_tup, rf_comp, pb_comp, rf_v, pb_v, frz_nd, frz_i, frz_s, frz_b, frz_n, frzs_n, frzs_c, frzs_int, frzs_str, fzd, fzn, nh_nil, nh_cons, ao_nil, ao_cons, ct_nil, ct_cons, List.length_cons, List.length_nil, Nat.reduceAdd, Nat.reduceLeDiff, Nat.reduceBEq, Bool.and_self, Bool.true_and, Bool.and_true, Bool.false_or, Bool.or_false, Bool.or_self, decide_true, decide_false, if_true, if_false, reduceIte, Bool.false_eq_true, at0, at1, at2, at3, Nat.zero_add, Nat.reduceLT, Nat.reduceSub, not_true_eq_false, not_false_eq_true, oi_tup, oi_lst, oi_pr, oi_call, oi_slc, oi_fz, oi_ite, oi_comp, oi_c, oi_g, sq_str, sq_lst, sq_tup, ss_str, ss_lst, ss_scr, ss_tup, al_nil, al_cons, ifx_rng, ifx_fro, ifx_slot, ifx_slotT, isI_int, ne_eq, Int.reduceEq, Int.reduceNeg, Int.reduceLT, Int.reduceLE, List.length_map, hne, e1, hat1]
  subst he
  refine os_seq (fun e => e = [.nd .lst false (ms.map .int), .int n, .nd .lst false (rows.map .str), .int j, .nd .lst false [.int t0, .int t1, .int t2], .str a, .str b, .str c, .str (lgoS a b c), x9, .hole]) ?_ fun e he => ?_
  · simp only [ok_c, ok_g, ok_v, ok_mv, ok_pr, ok_fz, ok_and, ok_or, ok_not, NB_bl, ok_ite, ok_chn, ok_lst', ok_tup', ok_call, ok_mut, ok_slcv, oa_nil, oa_v, oa_c, oa_g, oa_pr, oa_mv, oa_and, oa_or, oa_not, oa_fz, oa_chn, oa_slc, oa_ite, oa_call, oa_mut, oa_lst, oa_tup, oa_comp, or_nil, or_rf, or_v, or_c, or_g, or_pr, or_mv, or_and, or_or, or_not, or_fz, or_chn, or_slc, or_ite, or_call, or_mut, or_lst, or_tup, or_comp, reduceCtorEq, os_nil, os_cons, os_asg, os_unp, os_exs, os_aug, os_ife, os_ret, os_retN, os_rse, os_brk, os_cnt, os_pas, os_kil, os_asgP, os_fors, oi_rng1, oi_rng2, oi_v, IN_int, IN2_int, SL_int, OK_ok, OS_nx, OS_rt, OS_bk, OS_ct, SM_some, SM_if, SM_map, SM_bind, BR_bl, Cn.d, List.getElem?_cons_zero, List.getElem?_cons_succ, sl_z, sl_s, hoi, hos, hob, hon, hod, fzi, fzs, fzb, p_add, p_adds, p_sub, p_mul, p_fdiv, p_mod, p_pow, p_neg, p_lt, p_le, p_gt, p_ge, p_eqi, p_eqs, p_nei, p_nes, p_idx, p_lenS, p_lenL, p_lenT, p_lenC, p_abs, p_intb, idxL, idxC, idxT, idxS, Bool.not_false, Bool.not_true, true_and, and_true, decide_eq_true_eq, List.set_cons_zero, List.set_cons_succ, ok_fin, ok_finx, rf_nil, rf_rf, pb_nil, pb_rf, rf_c, pb_c, rf_g, pb_g, rf_pr, pb_pr, rf_mv, pb_mv, rf_and, pb_and, rf_or, pb_or, rf_not, pb_not, rf_fz, pb_fz, rf_chn, pb_chn, rf_slc, pb_slc, rf_ite, pb_ite, rf_call, pb_call, rf_mut, pb_mut, rf_lst, pb_lst, rf_tup, pb_tup, rf_comp, pb_comp, rf_v, pb_v, frz_nd, frz_i, frz_s, frz_b, frz_n, frzs_n, frzs_c, frzs_int, frzs_str, fzd, fzn, nh_nil, nh_cons, ao_nil, ao_cons, ct_nil, ct_cons, List.length_cons, List.length_nil, Nat.reduceAdd, Nat.reduceLeDiff, Nat.reduceBEq, Bool.and_self, Bool.true_and, Bool.and_true, Bool.false_or, Bool.or_false, Bool.or_self, decide_true, decide_false, if_true, if_false, reduceIte, Bool.false_eq_true, at0, at1, at2, at3, Nat.zero_add, Nat.reduceLT, Nat.reduceSub, not_true_eq_false, not_false_eq_true, oi_tup, oi_lst, oi_pr, oi_call, oi_slc, oi_fz, oi_ite, oi_comp, oi_c, oi_g, sq_str, sq_lst, sq_tup, ss_str, ss_lst, ss_scr, ss_tup, al_nil, al_cons, ifx_rng, ifx_fro, ifx_slot, ifx_slotT, isI_int, ne_eq, Int.reduceEq, Int.reduceNeg, Int.reduceLT, Int.reduceLE, g17, lgoS]
  subst he
  have hc : ∀ k, k < n → (ch a k = 110 ∨ ch a k = 121) ∧ (ch b k = 110 ∨ ch b k = 121) ∧ (ch c k = 110 ∨ ch c k = 121) := fun k hk => ⟨yn_ch ya (by omega), yn_ch yb (by omega), yn_ch yc (by omega)⟩
  have q1 : goS a b c = lgoS a b c := go_any la la fun k hk => by
    obtain ⟨u | u, v | v, w | w⟩ := hc k hk <;> simp [u, v, w, goC]
  have q2 : goS b c a = lgoS a b c := go_any la lb fun k hk => by
    obtain ⟨u | u, v | v, w | w⟩ := hc k hk <;> simp [u, v, w, goC]
  have q3 : goS c a b = lgoS a b c := go_any la lc fun k hk => by
    obtain ⟨u | u, v | v, w | w⟩ := hc k hk <;> simp [u, v, w, goC]
  have q4 : goS b a c = lgoS a b c := go_any la lb fun k hk => by
    obtain ⟨u | u, v | v, w | w⟩ := hc k hk <;> simp [u, v, w, goC]
  have g1 := go_ok (k := 5) h14 a b c n la lb lc (by omega)
  have g2 := go_ok (k := 5) h14 b c a n lb lc la (by omega)
  have g3 := go_ok (k := 5) h14 c a b n lc la lb (by omega)
  have g4 := go_ok (k := 5) h14 b a c n lb la lc (by omega)
  rw [q1] at g1
  rw [q2] at g2
  rw [q3] at g3
  rw [q4] at g4
  have s1 : (gam P 6).run 3 [.nd .lst false [.str (lgoS a b c), .str (lgoS a b c)], .nd .lst false [.str (lgoS a b c), .str (lgoS a b c)]] = .ok (.bl true) [.nd .lst false [.str (lgoS a b c), .str (lgoS a b c)], .nd .lst false [.str (lgoS a b c), .str (lgoS a b c)]] := same_ok h3 1 _ (Pl_str [_, _] false (by simp)) 5 (by omega)
  refine os_seq (fun e => e = [.nd .lst false (ms.map .int), .int n, .nd .lst false (rows.map .str), .int j, .nd .lst false [.int t0, .int t1, .int t2], .str a, .str b, .str c, .str (lgoS a b c), x9, .hole]) ?_ fun e he => ?_
  · simp only [ok_c, ok_g, ok_v, ok_mv, ok_pr, ok_fz, ok_and, ok_or, ok_not, NB_bl, ok_ite, ok_chn, ok_lst', ok_tup', ok_call, ok_mut, ok_slcv, oa_nil, oa_v, oa_c, oa_g, oa_pr, oa_mv, oa_and, oa_or, oa_not, oa_fz, oa_chn, oa_slc, oa_ite, oa_call, oa_mut, oa_lst, oa_tup, oa_comp, or_nil, or_rf, or_v, or_c, or_g, or_pr, or_mv, or_and, or_or, or_not, or_fz, or_chn, or_slc, or_ite, or_call, or_mut, or_lst, or_tup, or_comp, reduceCtorEq, os_nil, os_cons, os_asg, os_unp, os_exs, os_aug, os_ife, os_ret, os_retN, os_rse, os_brk, os_cnt, os_pas, os_kil, os_asgP, os_fors, oi_rng1, oi_rng2, oi_v, IN_int, IN2_int, SL_int, OK_ok, OS_nx, OS_rt, OS_bk, OS_ct, SM_some, SM_if, SM_map, SM_bind, BR_bl, Cn.d, List.getElem?_cons_zero, List.getElem?_cons_succ, sl_z, sl_s, hoi, hos, hob, hon, hod, fzi, fzs, fzb, p_add, p_adds, p_sub, p_mul, p_fdiv, p_mod, p_pow, p_neg, p_lt, p_le, p_gt, p_ge, p_eqi, p_eqs, p_nei, p_nes, p_idx, p_lenS, p_lenL, p_lenT, p_lenC, p_abs, p_intb, idxL, idxC, idxT, idxS, Bool.not_false, Bool.not_true, true_and, and_true, decide_eq_true_eq, List.set_cons_zero, List.set_cons_succ, ok_fin, ok_finx, rf_nil, rf_rf, pb_nil, pb_rf, rf_c, pb_c, rf_g, pb_g, rf_pr, pb_pr, rf_mv, pb_mv, rf_and, pb_and, rf_or, pb_or, rf_not, pb_not, rf_fz, pb_fz, rf_chn, pb_chn, rf_slc, pb_slc, rf_ite, pb_ite, rf_call, pb_call, rf_mut, pb_mut, rf_lst, pb_lst, rf_tup, pb_tup, rf_comp, pb_comp, rf_v, pb_v, frz_nd, frz_i, frz_s, frz_b, frz_n, frzs_n, frzs_c, frzs_int, frzs_str, fzd, fzn, nh_nil, nh_cons, ao_nil, ao_cons, ct_nil, ct_cons, List.length_cons, List.length_nil, Nat.reduceAdd, Nat.reduceLeDiff, Nat.reduceBEq, Bool.and_self, Bool.true_and, Bool.and_true, Bool.false_or, Bool.or_false, Bool.or_self, decide_true, decide_false, if_true, if_false, reduceIte, Bool.false_eq_true, at0, at1, at2, at3, Nat.zero_add, Nat.reduceLT, Nat.reduceSub, not_true_eq_false, not_false_eq_true, oi_tup, oi_lst, oi_pr, oi_call, oi_slc, oi_fz, oi_ite, oi_comp, oi_c, oi_g, sq_str, sq_lst, sq_tup, ss_str, ss_lst, ss_scr, ss_tup, al_nil, al_cons, ifx_rng, ifx_fro, ifx_slot, ifx_slotT, isI_int, ne_eq, Int.reduceEq, Int.reduceNeg, Int.reduceLT, Int.reduceLE, g1, g2, s1]
  subst he
  refine os_seq (fun e => e = [.nd .lst false (ms.map .int), .int n, .nd .lst false (rows.map .str), .int j, .nd .lst false [.int t0, .int t1, .int t2], .str a, .str b, .str c, .str (lgoS a b c), x9, .hole]) ?_ fun e he => ?_
  · simp only [ok_c, ok_g, ok_v, ok_mv, ok_pr, ok_fz, ok_and, ok_or, ok_not, NB_bl, ok_ite, ok_chn, ok_lst', ok_tup', ok_call, ok_mut, ok_slcv, oa_nil, oa_v, oa_c, oa_g, oa_pr, oa_mv, oa_and, oa_or, oa_not, oa_fz, oa_chn, oa_slc, oa_ite, oa_call, oa_mut, oa_lst, oa_tup, oa_comp, or_nil, or_rf, or_v, or_c, or_g, or_pr, or_mv, or_and, or_or, or_not, or_fz, or_chn, or_slc, or_ite, or_call, or_mut, or_lst, or_tup, or_comp, reduceCtorEq, os_nil, os_cons, os_asg, os_unp, os_exs, os_aug, os_ife, os_ret, os_retN, os_rse, os_brk, os_cnt, os_pas, os_kil, os_asgP, os_fors, oi_rng1, oi_rng2, oi_v, IN_int, IN2_int, SL_int, OK_ok, OS_nx, OS_rt, OS_bk, OS_ct, SM_some, SM_if, SM_map, SM_bind, BR_bl, Cn.d, List.getElem?_cons_zero, List.getElem?_cons_succ, sl_z, sl_s, hoi, hos, hob, hon, hod, fzi, fzs, fzb, p_add, p_adds, p_sub, p_mul, p_fdiv, p_mod, p_pow, p_neg, p_lt, p_le, p_gt, p_ge, p_eqi, p_eqs, p_nei, p_nes, p_idx, p_lenS, p_lenL, p_lenT, p_lenC, p_abs, p_intb, idxL, idxC, idxT, idxS, Bool.not_false, Bool.not_true, true_and, and_true, decide_eq_true_eq, List.set_cons_zero, List.set_cons_succ, ok_fin, ok_finx, rf_nil, rf_rf, pb_nil, pb_rf, rf_c, pb_c, rf_g, pb_g, rf_pr, pb_pr, rf_mv, pb_mv, rf_and, pb_and, rf_or, pb_or, rf_not, pb_not, rf_fz, pb_fz, rf_chn, pb_chn, rf_slc, pb_slc, rf_ite, pb_ite, rf_call, pb_call, rf_mut, pb_mut, rf_lst, pb_lst, rf_tup, pb_tup, rf_comp, pb_comp, rf_v, pb_v, frz_nd, frz_i, frz_s, frz_b, frz_n, frzs_n, frzs_c, frzs_int, frzs_str, fzd, fzn, nh_nil, nh_cons, ao_nil, ao_cons, ct_nil, ct_cons, List.length_cons, List.length_nil, Nat.reduceAdd, Nat.reduceLeDiff, Nat.reduceBEq, Bool.and_self, Bool.true_and, Bool.and_true, Bool.false_or, Bool.or_false, Bool.or_self, decide_true, decide_false, if_true, if_false, reduceIte, Bool.false_eq_true, at0, at1, at2, at3, Nat.zero_add, Nat.reduceLT, Nat.reduceSub, not_true_eq_false, not_false_eq_true, oi_tup, oi_lst, oi_pr, oi_call, oi_slc, oi_fz, oi_ite, oi_comp, oi_c, oi_g, sq_str, sq_lst, sq_tup, ss_str, ss_lst, ss_scr, ss_tup, al_nil, al_cons, ifx_rng, ifx_fro, ifx_slot, ifx_slotT, isI_int, ne_eq, Int.reduceEq, Int.reduceNeg, Int.reduceLT, Int.reduceLE, g3, g4, s1]
  subst he
  have hdf := differ_ok (k := 5) h15 a b (by omega) (by omega)
  have ld : (difL a b).length ≤ 10000 := by
    have : (difL a b).length ≤ (List.range a.length).length := List.length_filter_le _ _
    simp at this
    omega
  have s2 := same_ok h3 1 _ (Pl_nat (difL a b) false ld) 5 (by omega)
  have m1 : a.length ≤ lim := by unfold lim; omega
  have m2 : b.length ≤ lim := by unfold lim; omega
  refine os_seq (fun e => e = [.nd .lst false (ms.map .int), .int n, .nd .lst false (rows.map .str), .int j, .nd .lst false [.int t0, .int t1, .int t2], .str a, .str b, .str c, .str (lgoS a b c), x9, .hole]) ?_ fun e he => ?_
  · simp only [ok_c, ok_g, ok_v, ok_mv, ok_pr, ok_fz, ok_and, ok_or, ok_not, NB_bl, ok_ite, ok_chn, ok_lst', ok_tup', ok_call, ok_mut, ok_slcv, oa_nil, oa_v, oa_c, oa_g, oa_pr, oa_mv, oa_and, oa_or, oa_not, oa_fz, oa_chn, oa_slc, oa_ite, oa_call, oa_mut, oa_lst, oa_tup, oa_comp, or_nil, or_rf, or_v, or_c, or_g, or_pr, or_mv, or_and, or_or, or_not, or_fz, or_chn, or_slc, or_ite, or_call, or_mut, or_lst, or_tup, or_comp, reduceCtorEq, os_nil, os_cons, os_asg, os_unp, os_exs, os_aug, os_ife, os_ret, os_retN, os_rse, os_brk, os_cnt, os_pas, os_kil, os_asgP, os_fors, oi_rng1, oi_rng2, oi_v, IN_int, IN2_int, SL_int, OK_ok, OS_nx, OS_rt, OS_bk, OS_ct, SM_some, SM_if, SM_map, SM_bind, BR_bl, Cn.d, List.getElem?_cons_zero, List.getElem?_cons_succ, sl_z, sl_s, hoi, hos, hob, hon, hod, fzi, fzs, fzb, p_add, p_adds, p_sub, p_mul, p_fdiv, p_mod, p_pow, p_neg, p_lt, p_le, p_gt, p_ge, p_eqi, p_eqs, p_nei, p_nes, p_idx, p_lenS, p_lenL, p_lenT, p_lenC, p_abs, p_intb, idxL, idxC, idxT, idxS, Bool.not_false, Bool.not_true, true_and, and_true, decide_eq_true_eq, List.set_cons_zero, List.set_cons_succ, ok_fin, ok_finx, rf_nil, rf_rf, pb_nil, pb_rf, rf_c, pb_c, rf_g, pb_g, rf_pr, pb_pr, rf_mv, pb_mv, rf_and, pb_and, rf_or, pb_or, rf_not, pb_not, rf_fz, pb_fz, rf_chn, pb_chn, rf_slc, pb_slc, rf_ite, pb_ite, rf_call, pb_call, rf_mut, pb_mut, rf_lst, pb_lst, rf_tup, pb_tup, rf_comp, pb_comp, rf_v, pb_v, frz_nd, frz_i, frz_s, frz_b, frz_n, frzs_n, frzs_c, frzs_int, frzs_str, fzd, fzn, nh_nil, nh_cons, ao_nil, ao_cons, ct_nil, ct_cons, List.length_cons, List.length_nil, Nat.reduceAdd, Nat.reduceLeDiff, Nat.reduceBEq, Bool.and_self, Bool.true_and, Bool.and_true, Bool.false_or, Bool.or_false, Bool.or_self, decide_true, decide_false, if_true, if_false, reduceIte, Bool.false_eq_true, at0, at1, at2, at3, Nat.zero_add, Nat.reduceLT, Nat.reduceSub, not_true_eq_false, not_false_eq_true, oi_tup, oi_lst, oi_pr, oi_call, oi_slc, oi_fz, oi_ite, oi_comp, oi_c, oi_g, sq_str, sq_lst, sq_tup, ss_str, ss_lst, ss_scr, ss_tup, al_nil, al_cons, ifx_rng, ifx_fro, ifx_slot, ifx_slotT, isI_int, ne_eq, Int.reduceEq, Int.reduceNeg, Int.reduceLT, Int.reduceLE, hdf, frzs_nat]
    refine comp_rngC (n := n) (fun j => if ch a j = ch b j then none else some (.int j)) (by omega) rfl ?_ (fun j hj => ?_) ?_
    · simp only [ok_c, ok_g, ok_v, ok_mv, ok_pr, ok_fz, ok_and, ok_or, ok_not, NB_bl, ok_ite, ok_chn, ok_lst', ok_tup', ok_call, ok_mut, ok_slcv, oa_nil, oa_v, oa_c, oa_g, oa_pr, oa_mv, oa_and, oa_or, oa_not, oa_fz, oa_chn, oa_slc, oa_ite, oa_call, oa_mut, oa_lst, oa_tup, oa_comp, or_nil, or_rf, or_v, or_c, or_g, or_pr, or_mv, or_and, or_or, or_not, or_fz, or_chn, or_slc, or_ite, or_call, or_mut, or_lst, or_tup, or_comp, reduceCtorEq, os_nil, os_cons, os_asg, os_unp, os_exs, os_aug, os_ife, os_ret, os_retN, os_rse, os_brk, os_cnt, os_pas, os_kil, os_asgP, os_fors, oi_rng1, oi_rng2, oi_v, IN_int, IN2_int, SL_int, OK_ok, OS_nx, OS_rt, OS_bk, OS_ct, SM_some, SM_if, SM_map, SM_bind, BR_bl, Cn.d, List.getElem?_cons_zero, List.getElem?_cons_succ, sl_z, sl_s, hoi, hos, hob, hon, hod, fzi, fzs, fzb, p_add, p_adds, p_sub, p_mul, p_fdiv, p_mod, p_pow, p_neg, p_lt, p_le, p_gt, p_ge, p_eqi, p_eqs, p_nei, p_nes, p_idx, p_lenS, p_lenL, p_lenT, p_lenC, p_abs, p_intb, idxL, idxC, idxT, idxS, Bool.not_false, Bool.not_true, true_and, and_true, decide_eq_true_eq, List.set_cons_zero, List.set_cons_succ, ok_fin, ok_finx, rf_nil, rf_rf, pb_nil, pb_rf, rf_c, pb_c, rf_g, pb_g, rf_pr, pb_pr, rf_mv, pb_mv, rf_and, pb_and, rf_or, pb_or, rf_not, pb_not, rf_fz, pb_fz, rf_chn, pb_chn, rf_slc, pb_slc, rf_ite, pb_ite, rf_call, pb_call, rf_mut, pb_mut, rf_lst, pb_lst, rf_tup, pb_tup, rf_comp, pb_comp, rf_v, pb_v, frz_nd, frz_i, frz_s, frz_b, frz_n, frzs_n, frzs_c, frzs_int, frzs_str, fzd, fzn, nh_nil, nh_cons, ao_nil, ao_cons, ct_nil, ct_cons, List.length_cons, List.length_nil, Nat.reduceAdd, Nat.reduceLeDiff, Nat.reduceBEq, Bool.and_self, Bool.true_and, Bool.and_true, Bool.false_or, Bool.or_false, Bool.or_self, decide_true, decide_false, if_true, if_false, reduceIte, Bool.false_eq_true, at0, at1, at2, at3, Nat.zero_add, Nat.reduceLT, Nat.reduceSub, not_true_eq_false, not_false_eq_true, oi_tup, oi_lst, oi_pr, oi_call, oi_slc, oi_fz, oi_ite, oi_comp, oi_c, oi_g, sq_str, sq_lst, sq_tup, ss_str, ss_lst, ss_scr, ss_tup, al_nil, al_cons, ifx_rng, ifx_fro, ifx_slot, ifx_slotT, isI_int, ne_eq, Int.reduceEq, Int.reduceNeg, Int.reduceLT, Int.reduceLE]
    · simp only [ok_c, ok_g, ok_v, ok_mv, ok_pr, ok_fz, ok_and, ok_or, ok_not, NB_bl, ok_ite, ok_chn, ok_lst', ok_tup', ok_call, ok_mut, ok_slcv, oa_nil, oa_v, oa_c, oa_g, oa_pr, oa_mv, oa_and, oa_or, oa_not, oa_fz, oa_chn, oa_slc, oa_ite, oa_call, oa_mut, oa_lst, oa_tup, oa_comp, or_nil, or_rf, or_v, or_c, or_g, or_pr, or_mv, or_and, or_or, or_not, or_fz, or_chn, or_slc, or_ite, or_call, or_mut, or_lst, or_tup, or_comp, reduceCtorEq, os_nil, os_cons, os_asg, os_unp, os_exs, os_aug, os_ife, os_ret, os_retN, os_rse, os_brk, os_cnt, os_pas, os_kil, os_asgP, os_fors, oi_rng1, oi_rng2, oi_v, IN_int, IN2_int, SL_int, OK_ok, OS_nx, OS_rt, OS_bk, OS_ct, SM_some, SM_if, SM_map, SM_bind, BR_bl, Cn.d, List.getElem?_cons_zero, List.getElem?_cons_succ, sl_z, sl_s, hoi, hos, hob, hon, hod, fzi, fzs, fzb, p_add, p_adds, p_sub, p_mul, p_fdiv, p_mod, p_pow, p_neg, p_lt, p_le, p_gt, p_ge, p_eqi, p_eqs, p_nei, p_nes, p_idx, p_lenS, p_lenL, p_lenT, p_lenC, p_abs, p_intb, idxL, idxC, idxT, idxS, Bool.not_false, Bool.not_true, true_and, and_true, decide_eq_true_eq, List.set_cons_zero, List.set_cons_succ, ok_fin, ok_finx, rf_nil, rf_rf, pb_nil, pb_rf, rf_c, pb_c, rf_g, pb_g, rf_pr, pb_pr, rf_mv, pb_mv, rf_and, pb_and, rf_or, pb_or, rf_not, pb_not, rf_fz, pb_fz, rf_chn, pb_chn, rf_slc, pb_slc, rf_ite, pb_ite, rf_call, pb_call, rf_mut, pb_mut, rf_lst, pb_lst, rf_tup, pb_tup, rf_comp, pb_comp, rf_v, pb_v, frz_nd, frz_i, frz_s, frz_b, frz_n, frzs_n, frzs_c, frzs_int, frzs_str, fzd, fzn, nh_nil, nh_cons, ao_nil, ao_cons, ct_nil, ct_cons, List.length_cons, List.length_nil, Nat.reduceAdd, Nat.reduceLeDiff, Nat.reduceBEq, Bool.and_self, Bool.true_and, Bool.and_true, Bool.false_or, Bool.or_false, Bool.or_self, decide_true, decide_false, if_true, if_false, reduceIte, Bool.false_eq_true, at0, at1, at2, at3, Nat.zero_add, Nat.reduceLT, Nat.reduceSub, not_true_eq_false, not_false_eq_true, oi_tup, oi_lst, oi_pr, oi_call, oi_slc, oi_fz, oi_ite, oi_comp, oi_c, oi_g, sq_str, sq_lst, sq_tup, ss_str, ss_lst, ss_scr, ss_tup, al_nil, al_cons, ifx_rng, ifx_fro, ifx_slot, ifx_slotT, isI_int, ne_eq, Int.reduceEq, Int.reduceNeg, Int.reduceLT, Int.reduceLE, atC (show j < a.length by omega), atC (show j < b.length by omega), m1, m2, sgl]
      by_cases c1 : ch a j = ch b j <;> simp [c1]
    · have e9 : (List.range n).filterMap (fun j => if ch a j = ch b j then none else some (D.int j)) = (difL a b).map fun j => .int (j : Nat) := by
        unfold difL
        rw [← List.filterMap_eq_filter, List.map_filterMap, la]
        congr 1
        funext j
        by_cases c1 : ch a j = ch b j <;> simp [c1, Option.guard]
      rw [e9]
      simp only [ok_c, ok_g, ok_v, ok_mv, ok_pr, ok_fz, ok_and, ok_or, ok_not, NB_bl, ok_ite, ok_chn, ok_lst', ok_tup', ok_call, ok_mut, ok_slcv, oa_nil, oa_v, oa_c, oa_g, oa_pr, oa_mv, oa_and, oa_or, oa_not, oa_fz, oa_chn, oa_slc, oa_ite, oa_call, oa_mut, oa_lst, oa_tup, oa_comp, or_nil, or_rf, or_v, or_c, or_g, or_pr, or_mv, or_and, or_or, or_not, or_fz, or_chn, or_slc, or_ite, or_call, or_mut, or_lst, or_tup, or_comp, reduceCtorEq, os_nil, os_cons, os_asg, os_unp, os_exs, os_aug, os_ife, os_ret, os_retN, os_rse, os_brk, os_cnt, os_pas, os_kil, os_asgP, os_fors, oi_rng1, oi_rng2, oi_v, IN_int, IN2_int, SL_int, OK_ok, OS_nx, OS_rt, OS_bk, OS_ct, SM_some, SM_if, SM_map, SM_bind, BR_bl, Cn.d, List.getElem?_cons_zero, List.getElem?_cons_succ, sl_z, sl_s, hoi, hos, hob, hon, hod, fzi, fzs, fzb, p_add, p_adds, p_sub, p_mul, p_fdiv, p_mod, p_pow, p_neg, p_lt, p_le, p_gt, p_ge, p_eqi, p_eqs, p_nei, p_nes, p_idx, p_lenS, p_lenL, p_lenT, p_lenC, p_abs, p_intb, idxL, idxC, idxT, idxS, Bool.not_false, Bool.not_true, true_and, and_true, decide_eq_true_eq, List.set_cons_zero, List.set_cons_succ, ok_fin, ok_finx, rf_nil, rf_rf, pb_nil, pb_rf, rf_c, pb_c, rf_g, pb_g, rf_pr, pb_pr, rf_mv, pb_mv, rf_and, pb_and, rf_or, pb_or, rf_not, pb_not, rf_fz, pb_fz, rf_chn, pb_chn, rf_slc, pb_slc, rf_ite, pb_ite, rf_call, pb_call, rf_mut, pb_mut, rf_lst, pb_lst, rf_tup, pb_tup, rf_comp, pb_comp, rf_v, pb_v, frz_nd, frz_i, frz_s, frz_b, frz_n, frzs_n, frzs_c, frzs_int, frzs_str, fzd, fzn, nh_nil, nh_cons, ao_nil, ao_cons, ct_nil, ct_cons, List.length_cons, List.length_nil, Nat.reduceAdd, Nat.reduceLeDiff, Nat.reduceBEq, Bool.and_self, Bool.true_and, Bool.and_true, Bool.false_or, Bool.or_false, Bool.or_self, decide_true, decide_false, if_true, if_false, reduceIte, Bool.false_eq_true, at0, at1, at2, at3, Nat.zero_add, Nat.reduceLT, Nat.reduceSub, not_true_eq_false, not_false_eq_true, oi_tup, oi_lst, oi_pr, oi_call, oi_slc, oi_fz, oi_ite, oi_comp, oi_c, oi_g, sq_str, sq_lst, sq_tup, ss_str, ss_lst, ss_scr, ss_tup, al_nil, al_cons, ifx_rng, ifx_fro, ifx_slot, ifx_slotT, isI_int, ne_eq, Int.reduceEq, Int.reduceNeg, Int.reduceLT, Int.reduceLE, frzs_nat, s2]
  subst he
  obtain ⟨p, hp, lp, yp⟩ := pattern_ok (k := 5) h18 c t2 (by omega)
  refine os_seq (fun e => e = [.nd .lst false (ms.map .int), .int n, .nd .lst false (rows.map .str), .int j, .nd .lst false [.int t0, .int t1, .int t2], .str a, .str b, .str c, .str (lgoS a b c), .str p, .hole]) ?_ fun e he => ?_
  · simp only [ok_c, ok_g, ok_v, ok_mv, ok_pr, ok_fz, ok_and, ok_or, ok_not, NB_bl, ok_ite, ok_chn, ok_lst', ok_tup', ok_call, ok_mut, ok_slcv, oa_nil, oa_v, oa_c, oa_g, oa_pr, oa_mv, oa_and, oa_or, oa_not, oa_fz, oa_chn, oa_slc, oa_ite, oa_call, oa_mut, oa_lst, oa_tup, oa_comp, or_nil, or_rf, or_v, or_c, or_g, or_pr, or_mv, or_and, or_or, or_not, or_fz, or_chn, or_slc, or_ite, or_call, or_mut, or_lst, or_tup, or_comp, reduceCtorEq, os_nil, os_cons, os_asg, os_unp, os_exs, os_aug, os_ife, os_ret, os_retN, os_rse, os_brk, os_cnt, os_pas, os_kil, os_asgP, os_fors, oi_rng1, oi_rng2, oi_v, IN_int, IN2_int, SL_int, OK_ok, OS_nx, OS_rt, OS_bk, OS_ct, SM_some, SM_if, SM_map, SM_bind, BR_bl, Cn.d, List.getElem?_cons_zero, List.getElem?_cons_succ, sl_z, sl_s, hoi, hos, hob, hon, hod, fzi, fzs, fzb, p_add, p_adds, p_sub, p_mul, p_fdiv, p_mod, p_pow, p_neg, p_lt, p_le, p_gt, p_ge, p_eqi, p_eqs, p_nei, p_nes, p_idx, p_lenS, p_lenL, p_lenT, p_lenC, p_abs, p_intb, idxL, idxC, idxT, idxS, Bool.not_false, Bool.not_true, true_and, and_true, decide_eq_true_eq, List.set_cons_zero, List.set_cons_succ, ok_fin, ok_finx, rf_nil, rf_rf, pb_nil, pb_rf, rf_c, pb_c, rf_g, pb_g, rf_pr, pb_pr, rf_mv, pb_mv, rf_and, pb_and, rf_or, pb_or, rf_not, pb_not, rf_fz, pb_fz, rf_chn, pb_chn, rf_slc, pb_slc, rf_ite, pb_ite, rf_call, pb_call, rf_mut, pb_mut, rf_lst, pb_lst, rf_tup, pb_tup, rf_comp, pb_comp, rf_v, pb_v, frz_nd, frz_i, frz_s, frz_b, frz_n, frzs_n, frzs_c, frzs_int, frzs_str, fzd, fzn, nh_nil, nh_cons, ao_nil, ao_cons, ct_nil, ct_cons, List.length_cons, List.length_nil, Nat.reduceAdd, Nat.reduceLeDiff, Nat.reduceBEq, Bool.and_self, Bool.true_and, Bool.and_true, Bool.false_or, Bool.or_false, Bool.or_self, decide_true, decide_false, if_true, if_false, reduceIte, Bool.false_eq_true, at0, at1, at2, at3, Nat.zero_add, Nat.reduceLT, Nat.reduceSub, not_true_eq_false, not_false_eq_true, oi_tup, oi_lst, oi_pr, oi_call, oi_slc, oi_fz, oi_ite, oi_comp, oi_c, oi_g, sq_str, sq_lst, sq_tup, ss_str, ss_lst, ss_scr, ss_tup, al_nil, al_cons, ifx_rng, ifx_fro, ifx_slot, ifx_slotT, isI_int, ne_eq, Int.reduceEq, Int.reduceNeg, Int.reduceLT, Int.reduceLE, hp]
  subst he
  have k1 := matches_ok (k := 5) h16 a p (by omega) (by omega)
  have k2 := lmatches_ok (k := 5) h19 a p (by omega) (by omega)
  have s3 := same_sc h3 (.bl (matS a p)) rfl 5
  refine os_seq (fun e => e = [.nd .lst false (ms.map .int), .int n, .nd .lst false (rows.map .str), .int j, .nd .lst false [.int t0, .int t1, .int t2], .str a, .str b, .str c, .str (lgoS a b c), .str p, .hole]) ?_ fun e he => ?_
  · simp only [ok_c, ok_g, ok_v, ok_mv, ok_pr, ok_fz, ok_and, ok_or, ok_not, NB_bl, ok_ite, ok_chn, ok_lst', ok_tup', ok_call, ok_mut, ok_slcv, oa_nil, oa_v, oa_c, oa_g, oa_pr, oa_mv, oa_and, oa_or, oa_not, oa_fz, oa_chn, oa_slc, oa_ite, oa_call, oa_mut, oa_lst, oa_tup, oa_comp, or_nil, or_rf, or_v, or_c, or_g, or_pr, or_mv, or_and, or_or, or_not, or_fz, or_chn, or_slc, or_ite, or_call, or_mut, or_lst, or_tup, or_comp, reduceCtorEq, os_nil, os_cons, os_asg, os_unp, os_exs, os_aug, os_ife, os_ret, os_retN, os_rse, os_brk, os_cnt, os_pas, os_kil, os_asgP, os_fors, oi_rng1, oi_rng2, oi_v, IN_int, IN2_int, SL_int, OK_ok, OS_nx, OS_rt, OS_bk, OS_ct, SM_some, SM_if, SM_map, SM_bind, BR_bl, Cn.d, List.getElem?_cons_zero, List.getElem?_cons_succ, sl_z, sl_s, hoi, hos, hob, hon, hod, fzi, fzs, fzb, p_add, p_adds, p_sub, p_mul, p_fdiv, p_mod, p_pow, p_neg, p_lt, p_le, p_gt, p_ge, p_eqi, p_eqs, p_nei, p_nes, p_idx, p_lenS, p_lenL, p_lenT, p_lenC, p_abs, p_intb, idxL, idxC, idxT, idxS, Bool.not_false, Bool.not_true, true_and, and_true, decide_eq_true_eq, List.set_cons_zero, List.set_cons_succ, ok_fin, ok_finx, rf_nil, rf_rf, pb_nil, pb_rf, rf_c, pb_c, rf_g, pb_g, rf_pr, pb_pr, rf_mv, pb_mv, rf_and, pb_and, rf_or, pb_or, rf_not, pb_not, rf_fz, pb_fz, rf_chn, pb_chn, rf_slc, pb_slc, rf_ite, pb_ite, rf_call, pb_call, rf_mut, pb_mut, rf_lst, pb_lst, rf_tup, pb_tup, rf_comp, pb_comp, rf_v, pb_v, frz_nd, frz_i, frz_s, frz_b, frz_n, frzs_n, frzs_c, frzs_int, frzs_str, fzd, fzn, nh_nil, nh_cons, ao_nil, ao_cons, ct_nil, ct_cons, List.length_cons, List.length_nil, Nat.reduceAdd, Nat.reduceLeDiff, Nat.reduceBEq, Bool.and_self, Bool.true_and, Bool.and_true, Bool.false_or, Bool.or_false, Bool.or_self, decide_true, decide_false, if_true, if_false, reduceIte, Bool.false_eq_true, at0, at1, at2, at3, Nat.zero_add, Nat.reduceLT, Nat.reduceSub, not_true_eq_false, not_false_eq_true, oi_tup, oi_lst, oi_pr, oi_call, oi_slc, oi_fz, oi_ite, oi_comp, oi_c, oi_g, sq_str, sq_lst, sq_tup, ss_str, ss_lst, ss_scr, ss_tup, al_nil, al_cons, ifx_rng, ifx_fro, ifx_slot, ifx_slotT, isI_int, ne_eq, Int.reduceEq, Int.reduceNeg, Int.reduceLT, Int.reduceLE, k1, k2, s3]
  subst he
  have k3 := matches_ok (k := 5) h16 c p (by omega) (by omega)
  have e3 : matS c p = true := by
    unfold matS
    rw [List.all_eq_true]
    intro j hj
    rcases yp j (by simpa using hj) with z | z <;> simp [z]
  rw [e3] at k3
  have lq : (List.replicate n [45]).flatten.length = n := by simp
  have k4 := matches_ok (k := 5) h16 a (List.replicate n [45]).flatten (by omega) (by omega)
  have e4 : matS a (List.replicate n [45]).flatten = true := by
    unfold matS
    rw [List.all_eq_true]
    intro j hj
    have hj : j < n := by simp at hj; omega
    have : ch (List.replicate n [45]).flatten j = 45 := by
      rw [rep_flat]
      simp [ch, hj]
    rw [this]
    rfl
  rw [e4] at k4
  have pm : prim .mul [.str [45], .int (n : Int)] = some (.str (List.replicate n [45]).flatten) := by
    show (if 0 ≤ (n : Int) ∧ (n : Int) ≤ 100000 ∧ ([45] : List Nat).length = 1 then some (D.str ((List.replicate (n : Int).toNat [45]).flatten)) else none) = _
    rw [if_pos ⟨by omega, by omega, rfl⟩, Int.toNat_natCast]
  have s4 : (gam P 6).run 3 [.nd .lst false [.bl true, .bl true], .nd .lst false [.bl true, .bl true]] = .ok (.bl true) [.nd .lst false [.bl true, .bl true], .nd .lst false [.bl true, .bl true]] := same_ok h3 1 _ rfl 5 (by omega)
  simp only [ok_c, ok_g, ok_v, ok_mv, ok_pr, ok_fz, ok_and, ok_or, ok_not, NB_bl, ok_ite, ok_chn, ok_lst', ok_tup', ok_call, ok_mut, ok_slcv, oa_nil, oa_v, oa_c, oa_g, oa_pr, oa_mv, oa_and, oa_or, oa_not, oa_fz, oa_chn, oa_slc, oa_ite, oa_call, oa_mut, oa_lst, oa_tup, oa_comp, or_nil, or_rf, or_v, or_c, or_g, or_pr, or_mv, or_and, or_or, or_not, or_fz, or_chn, or_slc, or_ite, or_call, or_mut, or_lst, or_tup, or_comp, reduceCtorEq, os_nil, os_cons, os_asg, os_unp, os_exs, os_aug, os_ife, os_ret, os_retN, os_rse, os_brk, os_cnt, os_pas, os_kil, os_asgP, os_fors, oi_rng1, oi_rng2, oi_v, IN_int, IN2_int, SL_int, OK_ok, OS_nx, OS_rt, OS_bk, OS_ct, SM_some, SM_if, SM_map, SM_bind, BR_bl, Cn.d, List.getElem?_cons_zero, List.getElem?_cons_succ, sl_z, sl_s, hoi, hos, hob, hon, hod, fzi, fzs, fzb, p_add, p_adds, p_sub, p_mul, p_fdiv, p_mod, p_pow, p_neg, p_lt, p_le, p_gt, p_ge, p_eqi, p_eqs, p_nei, p_nes, p_idx, p_lenS, p_lenL, p_lenT, p_lenC, p_abs, p_intb, idxL, idxC, idxT, idxS, Bool.not_false, Bool.not_true, true_and, and_true, decide_eq_true_eq, List.set_cons_zero, List.set_cons_succ, ok_fin, ok_finx, rf_nil, rf_rf, pb_nil, pb_rf, rf_c, pb_c, rf_g, pb_g, rf_pr, pb_pr, rf_mv, pb_mv, rf_and, pb_and, rf_or, pb_or, rf_not, pb_not, rf_fz, pb_fz, rf_chn, pb_chn, rf_slc, pb_slc, rf_ite, pb_ite, rf_call, pb_call, rf_mut, pb_mut, rf_lst, pb_lst, rf_tup, pb_tup, rf_comp, pb_comp, rf_v, pb_v, frz_nd, frz_i, frz_s, frz_b, frz_n, frzs_n, frzs_c, frzs_int, frzs_str, fzd, fzn, nh_nil, nh_cons, ao_nil, ao_cons, ct_nil, ct_cons, List.length_cons, List.length_nil, Nat.reduceAdd, Nat.reduceLeDiff, Nat.reduceBEq, Bool.and_self, Bool.true_and, Bool.and_true, Bool.false_or, Bool.or_false, Bool.or_self, decide_true, decide_false, if_true, if_false, reduceIte, Bool.false_eq_true, at0, at1, at2, at3, Nat.zero_add, Nat.reduceLT, Nat.reduceSub, not_true_eq_false, not_false_eq_true, oi_tup, oi_lst, oi_pr, oi_call, oi_slc, oi_fz, oi_ite, oi_comp, oi_c, oi_g, sq_str, sq_lst, sq_tup, ss_str, ss_lst, ss_scr, ss_tup, al_nil, al_cons, ifx_rng, ifx_fro, ifx_slot, ifx_slotT, isI_int, ne_eq, Int.reduceEq, Int.reduceNeg, Int.reduceLT, Int.reduceLE, k3, pm, k4, s4]
  exact ⟨_, _, _, _, _, _, _, rfl⟩
end
end Wap
set_option maxHeartbeats 0
namespace Wap
namespace Lk02
open PySem PySem.Spec PyProof.Rows L2
abbrev prog : Program := PySem.Challenge.pw_wapentake_k02_three_rows_go
def top (i : Nat) : Stmt := prog.main.body.getD i (.Pass ⟨0, 0, 0, 0⟩)
def i14 : DI := ⟨"go", 14, ["one", "two", "three", "found", "at"], d14, top 2⟩
theorem b14 : BindOk i14 := fun _ _ _ _ _ _ us hl => match us, hl with | [_, _, _], _ => rfl
def i15 : DI := ⟨"differ", 15, ["one", "another", "at"], d15, top 3⟩
theorem b15 : BindOk i15 := fun _ _ _ _ _ _ us hl => match us, hl with | [_, _], _ => rfl
def i16 : DI := ⟨"matches", 16, ["row", "pattern", "at"], d16, top 4⟩
theorem b16 : BindOk i16 := fun _ _ _ _ _ _ us hl => match us, hl with | [_, _], _ => rfl
def i1 : DI := ⟨"_law_cell", 1, ["_law_script", "_law_k"], d1, top 6⟩
theorem b1 : BindOk i1 := fun _ _ _ _ _ _ us hl => match us, hl with | [_, _], _ => rfl
def i2 : DI := ⟨"_law_draws", 2, ["_law_cell_here", "_law_parts", "_law_one", "_law_two", "_law_six", "_law_found", "_law_part"], d2, top 7⟩
theorem b2 : BindOk i2 := fun _ _ _ _ _ _ us hl => match us, hl with | [_, _], _ => rfl
def i3 : DI := ⟨"_law_same", 3, ["_law_found", "_law_due", "_law_k"], d3, top 8⟩
theorem b3 : BindOk i3 := fun _ _ _ _ _ _ us hl => match us, hl with | [_, _], _ => rfl
def i17 : DI := ⟨"_law_go", 17, ["_law_one", "_law_two", "_law_three", "_law_found", "_law_k"], d17, top 9⟩
theorem b17 : BindOk i17 := fun _ _ _ _ _ _ us hl => match us, hl with | [_, _, _], _ => rfl
def i5 : DI := ⟨"_law_not", 5, ["_law_sign"], d5, top 10⟩
theorem b5 : BindOk i5 := fun _ _ _ _ _ _ us hl => match us, hl with | [_], _ => rfl
def i6 : DI := ⟨"_law_hidden", 6, ["_law_plan_here", "_law_m", "_law_number", "_law_ends", "_law_row", "_law_k"], d6, top 11⟩
theorem b6 : BindOk i6 := fun _ _ _ _ _ _ us hl => match us, hl with | [_, _, _], _ => rfl
def i7 : DI := ⟨"_law_bits", 7, ["_law_number", "_law_n", "_law_row", "_law_k"], d7, top 12⟩
theorem b7 : BindOk i7 := fun _ _ _ _ _ _ us hl => match us, hl with | [_, _], _ => rfl
def i8 : DI := ⟨"_law_row_by", 8, ["_law_number", "_law_n", "_law_plan_here", "_law_m", "_law_hidden_here", "_law_flips", "_law_row", "_law_q", "_law_sign"], d8, top 13⟩
theorem b8 : BindOk i8 := fun _ _ _ _ _ _ us hl => match us, hl with | [_, _, _], _ => rfl
def i9 : DI := ⟨"_law_plan", 9, ["_law_cell_here"], d9, top 14⟩
theorem b9 : BindOk i9 := fun _ _ _ _ _ _ us hl => match us, hl with | [_], _ => rfl
def i10 : DI := ⟨"_law_rows", 10, ["_law_cells", "_law_n", "_law_cell_here", "_law_plan_here", "_law_one"], d10, top 15⟩
theorem b10 : BindOk i10 := fun _ _ _ _ _ _ us hl => match us, hl with | [_, _, _], _ => rfl
def i18 : DI := ⟨"_law_pattern", 18, ["_law_row", "_law_number", "_law_found", "_law_k"], d18, top 16⟩
theorem b18 : BindOk i18 := fun _ _ _ _ _ _ us hl => match us, hl with | [_, _], _ => rfl
def i19 : DI := ⟨"_law_matches", 19, ["_law_row", "_law_pattern_here", "_law_k"], d19, top 17⟩
theorem b19 : BindOk i19 := fun _ _ _ _ _ _ us hl => match us, hl with | [_, _], _ => rfl
def i4 : DI := ⟨"_law_count", 4, ["_law_cell_here"], d4, top 18⟩
theorem b4 : BindOk i4 := fun _ _ _ _ _ _ us hl => match us, hl with | [_], _ => rfl
def i20 : DI := ⟨"law", 20, ["_law_script", "_law_n", "_law_rows_here", "_law_k", "_law_drawn", "_law_one", "_law_two", "_law_three", "_law_due", "_law_pattern_here", "_law_q"], d20, top 19⟩
theorem b20 : BindOk i20 := fun _ _ _ _ _ _ us hl => match us, hl with | [_], _ => rfl
def dis : List DI := [i14, i15, i16, i1, i2, i3, i17, i5, i6, i7, i8, i9, i10, i18, i19, i4, i20]
def cns : List (Str × Cn) := [("OPEN", .str [45])]
theorem hB : ∀ i ∈ dis, BindOk i := by
  simp only [dis, List.forall_mem_cons]
  exact ⟨b14, b15, b16, b1, b2, b3, b17, b5, b6, b7, b8, b9, b10, b18, b19, b4, b20, fun _ h => by cases h⟩
theorem hok : dis.all (DI.ok (fnsOf dis) cns []) = true := by decide +kernel
theorem hP : ∀ i ∈ dis, Pof dis i.f = some i.d := by
  simp only [dis, List.forall_mem_cons]
  exact ⟨rfl, rfl, rfl, rfl, rfl, rfl, rfl, rfl, rfl, rfl, rfl, rfl, rfl, rfl, rfl, rfl, rfl, fun _ h => by cases h⟩
def names : List Str := ["OPEN", "go", "differ", "matches", "_law_cell", "_law_draws", "_law_same", "_law_go", "_law_not", "_law_hidden", "_law_bits", "_law_row_by", "_law_plan", "_law_rows", "_law_pattern", "_law_matches", "_law_count"]
abbrev R : PySem.W.OpenRow := PySem.W.OpenLaw.row PySem.Challenge.rw_wapentake_k02_three_rows_go
def fn : List He.DefD := dis.map DI.dd
def fa : List He.Fa := faOf dis cns
abbrev hk : PySem.W.Hook := He.hookD 4 fa fn
def ob (s : PySem.W.SharedT) : He.AlD := He.obsDG 4 fa fn (HandSHeadRun.getT s)
theorem ob_eq (s : PySem.W.SharedT) : ob s = hk.obs s.abs := He.obsDG_eq (HandSHeadRun.getT_eq s)
theorem run (w : World) : HandSHeadRun.RunEq R (PySem.W.view R.prog [19]) hk ob 2000 names w := by
  intro os
  kernel_rfl
theorem runs (ns : List Int) (h : ns.length ≤ 63) : ∃ outs, (gam (Pof dis) 7).run i20.f [.nd .scr false (ns.map .int)] = .ok (.bl true) outs :=
  law02 rfl rfl rfl rfl rfl rfl rfl rfl rfl rfl rfl rfl rfl rfl rfl rfl rfl ns h
end Lk02
end Wap
open PySem PySem.W PySem.Calls PyProof.Rows
theorem PySem.Challenge.cw_wapentake_k02_three_rows_go_holds : PySem.Challenge.rw_wapentake_k02_three_rows_go.Holds := by
  w_on; o_law
  refine HandSHeadRun.head_any (r := OpenLaw.row PySem.Challenge.rw_wapentake_k02_three_rows_go) (q := view (OpenLaw.row PySem.Challenge.rw_wapentake_k02_three_rows_go).prog [19]) (H := Wap.Lk02.hk) (ob := Wap.Lk02.ob) (M := 2000) (loose := Wap.Lk02.names) (d := HandSHeadRun.topDef (OpenLaw.row PySem.Challenge.rw_wapentake_k02_three_rows_go).prog 19) (kwd := []) Wap.Lk02.ob_eq
    (by kernel_rfl) (fun s => by kernel_rfl) Wap.Lk02.run (by kernel_rfl) (by kernel_rfl) (by kernel_rfl) (by rfl) (by first | assumption | decide +kernel) (by decide +kernel) ⟨rfl, rfl, rfl, rfl, rfl, by decide +kernel⟩ ?hw ?hc
  case hw => w_witness2
  case hc =>
    refine Wap.walkW (l := PySem.Challenge.rw_wapentake_k02_three_rows_go) (n := 63) (k := 7) (x := "_law_script") rfl (by decide) (by kernel_rfl) ⟨rfl, by decide, by decide⟩ ?F
    intro w mg fa h Y G hmg0
    obtain ⟨K, KX, c⟩ := Y
    have hmg : mg Wap.Lk02.i20.name = some (.ref fa) := by
      have e : (HandSHeadRun.topDef (OpenLaw.row PySem.Challenge.rw_wapentake_k02_three_rows_go).prog 19).name = Wap.Lk02.i20.name := by kernel_rfl
      rw [← e]
      exact hmg0
    exact Wap.end0 (l := PySem.Challenge.rw_wapentake_k02_three_rows_go) (dis := Wap.Lk02.dis) (cns := Wap.Lk02.cns) (k := 7) (n := 63) (i := Wap.Lk02.i20) (x := "_law_script") Wap.Lk02.hok Wap.Lk02.hP Wap.Lk02.hB rfl (by simp [Wap.Lk02.dis]) rfl Wap.Lk02.runs KX G c hmg
