import PyProof.Rows.All
import Wide.All
import OpenK.AllK
import Wide.FinOn
import HandS.ForMost
import HandS.ExcInit
import HandS.ExcIs
import HandS.ExcField
import HandS.IsInst
import HandS.WideBits
import HandS.Lambda
import KE.KExcInit
import PyProof.ReprReads
import PyProof.StrHeap
import HandS.TupSets
import KE.SortData
import KE.SortKeyHeap
import HandS.SetFor
import HandS.TupAny
import HandS.TupMul
import HandS.TupLe
import HandS.Conv
import HandS.Style
import PyProof.StrOps2
import HandS.Deep
import HandS.TryMany
import HandS.WordsExc
import KE.KDictDisplayH
import HandS.Property
import HandS.MakeKw
import HandS.MakeKwOnly
import HandS.OwnEq
import HandS.RaiseMore
import KE.KOpsOwn
import OpenK.KOps
import PyProof.InstNe
import HandS.ClsMeth
import HandS.Zip
import HandS.Dict
import HandS.FStr
import PyProof.ReprRoads
import KE.KDictPairs
import HandS.HeadHook1
import PySem.Challenge.RW_wakesayings_k21_whole_sayings_by_own_lis
import KE.KStateDown
import KE.KNestM
import HandS.Defaults
import HandS.Head0
import HandS.Head1
import HandS.Head2
import HandS.HeadEnd
import HandS.HeadHook4
import HandS.EndTab
set_option Elab.async false
set_option linter.all false
set_option maxRecDepth 100000
set_option maxHeartbeats 2000000
/-! PD: data ahead of the heap. A value stands for data; a pot (a list of two ints that draws change) stands apart. -/
namespace PD
open PySem PySem.Spec L2

/-- what was tracked is as it was -/
def Ex (H H' : Hp) : Prop := ∀ a o, H a = some o → H' a = some o
theorem Ex.refl (H : Hp) : Ex H H := fun _ _ h => h
theorem Ex.trans {H H1 H2 : Hp} (a : Ex H H1) (b : Ex H1 H2) : Ex H H2 := fun x o h => b x o (a x o h)
theorem Ex.new {H : Hp} {p : Addr} {o : HO} (h : H p = none) : Ex H (upd H p o) := fun a u e => by
  rw [upd_ne (ne_of_none e h)]
  exact e
/-- the changing places: the pot, and tables of code objects, each with the name that its code objects bear -/
structure Zp where
  pot : Option Addr
  tabs : List (Addr × Str)
def Zp.at (z : Zp) (a : Addr) : Prop := z.pot = some a ∨ ∃ q, (a, q) ∈ z.tabs
/-- plain data, instances and exceptions of own classes, the pot, anything else as it is, a dict whose keys are tuples -/
inductive D where
  | non | bl (b : Bool) | int (i : Int) | str (x : Str) | ty (n : String)
  | lst (xs : List D) | tup (xs : List D) | dct (kvs : List (Key × D))
  | obj (C : Addr) (fs : List (Str × D)) | exc (C : Addr) (fs : List (Str × D))
  | pot | raw (v : V) | dT | dtk (ks : List (List Str))

mutual
/-- in the heap H (the pot's place left out) the value stands for the data -/
inductive R (z : Zp) (H : Hp) : V → D → Prop
  | non : R z H .non .non
  | bl (b : Bool) : R z H (.bl b) (.bl b)
  | int (i : Int) : R z H (.int i) (.int i)
  | str (x : Str) : R z H (.str x) (.str x)
  | ty (n : String) : R z H (.ty n) (.ty n)
  | raw (v : V) : R z H v (.raw v)
  | pot {a : Addr} : z.pot = some a → R z H (.ref a) .pot
  | lst {a : Addr} {xs : List V} {ds : List D} : H a = some (.lst xs) → RA z H xs ds → R z H (.ref a) (.lst ds)
  | tup {a : Addr} {xs : List V} {ds : List D} : H a = some (.tup xs) → RA z H xs ds → R z H (.ref a) (.tup ds)
  | dct {a : Addr} {xs : List (Key × V)} {ds : List (Key × D)} : H a = some (.dK xs) → RK z H xs ds → R z H (.ref a) (.dct ds)
  | obj {a C dx : Addr} {xs : List (Str × V)} {ds : List (Str × D)} : H a = some (.ins C dx xs) → RF z H xs ds → R z H (.ref a) (.obj C ds)
  | exc {a C d : Addr} {xs : List (Str × V)} {ds : List (Str × D)} : H a = some (exo a C (some d)) → H d = some (exd d xs) → RF z H xs ds → R z H (.ref a) (.exc C ds)
  | exc0 {a C : Addr} : H a = some (exo a C none) → R z H (.ref a) (.exc C [])
  | dT {a : Addr} {kvs : List (List Key × V)} : H a = some (.dT kvs) → R z H (.ref a) .dT
  | dtk {a : Addr} {ks : List (List Str)} : H a = some (.dT (ks.map fun k => (k.map Sum.inr, .bl true))) → R z H (.ref a) (.dtk ks)
inductive RA (z : Zp) (H : Hp) : List V → List D → Prop
  | nil : RA z H [] []
  | cons {v : V} {vs : List V} {d : D} {ds : List D} : R z H v d → RA z H vs ds → RA z H (v :: vs) (d :: ds)
inductive RK (z : Zp) (H : Hp) : List (Key × V) → List (Key × D) → Prop
  | nil : RK z H [] []
  | cons {k : Key} {v : V} {vs : List (Key × V)} {d : D} {ds : List (Key × D)} : R z H v d → RK z H vs ds → RK z H ((k, v) :: vs) ((k, d) :: ds)
inductive RF (z : Zp) (H : Hp) : List (Str × V) → List (Str × D) → Prop
  | nil : RF z H [] []
  | cons {k : Str} {v : V} {vs : List (Str × V)} {d : D} {ds : List (Str × D)} : R z H v d → RF z H vs ds → RF z H ((k, v) :: vs) ((k, d) :: ds)
end

mutual
theorem R.mono {z : Zp} {H H' : Hp} (e : Ex H H') : ∀ (d : D) (v : V), R z H v d → R z H' v d
  | .non, _, h => by cases h; exact .non
  | .bl _, _, h => by cases h; exact .bl _
  | .int _, _, h => by cases h; exact .int _
  | .str _, _, h => by cases h; exact .str _
  | .ty _, _, h => by cases h; exact .ty _
  | .pot, _, h => by cases h with | pot h => exact .pot h
  | .raw _, _, h => by cases h; exact .raw _
  | .dT, _, h => by cases h with | dT h1 => exact .dT (e _ _ h1)
  | .dtk _, _, h => by cases h with | dtk h1 => exact .dtk (e _ _ h1)
  | .lst ds, _, h => by cases h with | lst h1 h2 => exact .lst (e _ _ h1) (RA.mono e ds _ h2)
  | .tup ds, _, h => by cases h with | tup h1 h2 => exact .tup (e _ _ h1) (RA.mono e ds _ h2)
  | .dct ds, _, h => by cases h with | dct h1 h2 => exact .dct (e _ _ h1) (RK.mono e ds _ h2)
  | .obj _ ds, _, h => by cases h with | obj h1 h2 => exact .obj (e _ _ h1) (RF.mono e ds _ h2)
  | .exc _ ds, _, h => by
    cases h with
    | exc h1 h2 h3 => exact .exc (e _ _ h1) (e _ _ h2) (RF.mono e ds _ h3)
    | exc0 h1 => exact .exc0 (e _ _ h1)
theorem RA.mono {z : Zp} {H H' : Hp} (e : Ex H H') : ∀ (ds : List D) (vs : List V), RA z H vs ds → RA z H' vs ds
  | [], _, h => by cases h; exact .nil
  | d :: ds, _, h => by cases h with | cons h1 h2 => exact .cons (R.mono e d _ h1) (RA.mono e ds _ h2)
theorem RK.mono {z : Zp} {H H' : Hp} (e : Ex H H') : ∀ (ds : List (Key × D)) (vs : List (Key × V)), RK z H vs ds → RK z H' vs ds
  | [], _, h => by cases h; exact .nil
  | (_, d) :: ds, _, h => by cases h with | cons h1 h2 => exact .cons (R.mono e d _ h1) (RK.mono e ds _ h2)
theorem RF.mono {z : Zp} {H H' : Hp} (e : Ex H H') : ∀ (ds : List (Str × D)) (vs : List (Str × V)), RF z H vs ds → RF z H' vs ds
  | [], _, h => by cases h; exact .nil
  | (_, d) :: ds, _, h => by cases h with | cons h1 h2 => exact .cons (R.mono e d _ h1) (RF.mono e ds _ h2)
end

/-! ### lists of data -/
theorem RA.length {z : Zp} {H : Hp} : ∀ {ds : List D} {vs : List V}, RA z H vs ds → vs.length = ds.length
  | [], _, h => by cases h; rfl
  | _ :: ds, _, h => by cases h with | cons _ h2 => simp [RA.length h2]
theorem RA.append {z : Zp} {H : Hp} : ∀ {ds es : List D} {vs us : List V}, RA z H vs ds → RA z H us es → RA z H (vs ++ us) (ds ++ es)
  | [], _, _, _, h, g => by cases h; exact g
  | _ :: _, _, _, _, h, g => by cases h with | cons h1 h2 => exact .cons h1 (RA.append h2 g)
theorem RA.get {z : Zp} {H : Hp} : ∀ {ds : List D} {vs : List V} {i : Nat} {v : V}, RA z H vs ds → vs[i]? = some v → ∃ d, ds[i]? = some d ∧ R z H v d
  | [], _, _, _, h, e => by cases h; simp at e
  | _ :: _, _, 0, _, h, e => by cases h with | cons h1 _ => simp at e; subst e; exact ⟨_, rfl, h1⟩
  | _ :: _, _, i + 1, _, h, e => by cases h with | cons _ h2 => simpa using RA.get (i := i) h2 (by simpa using e)
theorem RA.get' {z : Zp} {H : Hp} : ∀ {ds : List D} {vs : List V} {i : Nat} {d : D}, RA z H vs ds → ds[i]? = some d → ∃ v, vs[i]? = some v ∧ R z H v d
  | [], _, _, _, _, e => by simp at e
  | _ :: _, _, 0, _, h, e => by cases h with | cons h1 _ => simp at e; subst e; exact ⟨_, rfl, h1⟩
  | _ :: _, _, i + 1, _, h, e => by cases h with | cons _ h2 => simpa using RA.get' (i := i) h2 (by simpa using e)
theorem RA.take {z : Zp} {H : Hp} : ∀ (n : Nat) {ds : List D} {vs : List V}, RA z H vs ds → RA z H (vs.take n) (ds.take n)
  | 0, _, _, _ => by simp; exact .nil
  | _ + 1, [], _, h => by cases h; exact .nil
  | n + 1, _ :: _, _, h => by cases h with | cons h1 h2 => exact .cons h1 (RA.take n h2)
theorem RA.drop {z : Zp} {H : Hp} : ∀ (n : Nat) {ds : List D} {vs : List V}, RA z H vs ds → RA z H (vs.drop n) (ds.drop n)
  | 0, _, _, h => by simpa using h
  | _ + 1, [], _, h => by cases h; exact .nil
  | n + 1, _ :: _, _, h => by cases h with | cons h1 h2 => simpa using RA.drop n h2
theorem RA.replicate {z : Zp} {H : Hp} {v : V} {d : D} (h : R z H v d) : ∀ n : Nat, RA z H (List.replicate n v) (List.replicate n d)
  | 0 => .nil
  | n + 1 => .cons h (RA.replicate h n)
theorem RF.lookup {z : Zp} {H : Hp} {f : Str} {d : D} : ∀ {ds : List (Str × D)} {vs : List (Str × V)}, RF z H vs ds → ds.lookup f = some d → ∃ v, vs.lookup f = some v ∧ R z H v d
  | [], _, _, e => by simp at e
  | (k, d') :: ds, _, h, e => by
    cases h with
    | @cons _ v vs _ _ h1 h2 =>
      rw [List.lookup_cons] at e ⊢
      by_cases q : (f == k) = true
      · rw [q] at e ⊢
        cases e
        exact ⟨v, rfl, h1⟩
      · have q' : (f == k) = false := by simpa using q
        rw [q'] at e ⊢
        exact RF.lookup h2 e

/-! ### the pot's place left out, and further places hs that are held elsewhere -/
noncomputable def hid (z : Zp) (hs : Addr → Prop) (H : Hp) : Hp := fun b => open Classical in if z.at b ∨ hs b then none else H b
theorem hid_ne {z : Zp} {hs : Addr → Prop} {H : Hp} {b : Addr} (h : ¬ z.at b) (h' : ¬ hs b) : hid z hs H b = H b := if_neg (by rintro (q | q); exact h q; exact h' q)
theorem hid_some {z : Zp} {hs : Addr → Prop} {H : Hp} {b : Addr} {o : HO} (h : hid z hs H b = some o) : ¬ z.at b ∧ ¬ hs b ∧ H b = some o := by
  unfold hid at h
  split at h
  · cases h
  · rename_i q
    exact ⟨fun e => q (.inl e), fun e => q (.inr e), h⟩
theorem hid_sub {z : Zp} {hs : Addr → Prop} {H : Hp} : Ex (hid z hs H) H := fun a o h => (hid_some h).2.2
theorem hid_less {z : Zp} {hs hs' : Addr → Prop} {H : Hp} (i : ∀ a, hs' a → hs a) : Ex (hid z hs H) (hid z hs' H) := fun a o h => by
  obtain ⟨h1, h2, h3⟩ := hid_some h
  rw [hid_ne h1 fun q => h2 (i a q)]
  exact h3
/-- all but the pot as it was -/
def ExZ (z : Zp) (H H' : Hp) : Prop := ∀ a o, ¬ z.at a → H a = some o → H' a = some o
theorem ExZ.refl (z : Zp) (H : Hp) : ExZ z H H := fun _ _ _ h => h
theorem ExZ.trans {z : Zp} {H H1 H2 : Hp} (a : ExZ z H H1) (b : ExZ z H1 H2) : ExZ z H H2 := fun x o n h => b x o n (a x o n h)
theorem exz_hid {z : Zp} {hs : Addr → Prop} {H H' : Hp} (e : ExZ z H H') : Ex (hid z hs H) (hid z hs H') := fun a o h => by
  obtain ⟨n, m, h⟩ := hid_some h
  rw [hid_ne n m]
  exact e a o n h
theorem ExZ.of {z : Zp} {H H' : Hp} (e : Ex H H') : ExZ z H H' := fun a o _ h => e a o h
theorem ExZ.new {z : Zp} {H : Hp} {p : Addr} {o : HO} (h : H p = none) : ExZ z H (upd H p o) := .of (Ex.new h)
/-- the pot holds two ints, not below nought, the second one small; the tables are z's, and no others are there -/
structure PotAt (z : Zp) (H : Hp) : Prop where
  two : ∀ a, z.pot = some a → ∃ i j : Int, H a = some (.lst [.int i, .int j]) ∧ 0 ≤ i ∧ 0 ≤ j ∧ j < 2147483648
  tabs : LamX.Tabs z.tabs H
  only : ∀ a ps, H a = some (.tbl ps) → ∃ q, (a, q) ∈ z.tabs
theorem PotAt.keep {z : Zp} {H H' : Hp} (p : PotAt z H) (e : Ex H H') (n : ∀ a ps, H' a = some (.tbl ps) → H a = some (.tbl ps)) : PotAt z H' := ⟨fun a q => by
  obtain ⟨i, j, h, r⟩ := p.two a q
  exact ⟨i, j, e _ _ h, r⟩, p.tabs.ext e, fun a ps h => p.only a ps (n a ps h)⟩
/-- a list that is no changing place is changed -/
theorem PotAt.upd {z : Zp} {H : Hp} {P : Addr} {xs ys : List V} (p : PotAt z H) (n : ¬ z.at P) (h : H P = some (.lst xs)) : PotAt z (upd H P (.lst ys)) := by
  refine ⟨fun a q => ?_, fun t ht => ?_, fun a ps e => ?_⟩
  · obtain ⟨i, j, h2, r⟩ := p.two a q
    exact ⟨i, j, by rw [upd_ne (by rintro rfl; exact n (.inl q))]; exact h2, r⟩
  · obtain ⟨ps, h1, h2, h3⟩ := p.tabs t ht
    refine ⟨ps, by rw [upd_ne (by rintro e; exact n (.inr ⟨t.2, by rw [← e]; exact ht⟩))]; exact h1, h2, fun pos cv hc => ?_⟩
    obtain ⟨c, e1, e2⟩ := h3 pos cv hc
    exact ⟨c, e1, by rw [upd_ne (by rintro rfl; rw [h] at e2; cases e2)]; exact e2⟩
  · by_cases q : a = P
    · rw [q, upd_same] at e
      cases e
    · rw [upd_ne q] at e
      exact p.only a ps e
/-- an instance that is no changing place is changed -/
theorem PotAt.updI {z : Zp} {H : Hp} {P C dx : Addr} {xs ys : List (Str × V)} (p : PotAt z H) (n : ¬ z.at P) (h : H P = some (.ins C dx xs)) : PotAt z (L2.upd H P (.ins C dx ys)) := by
  refine ⟨fun a q => ?_, fun t ht => ?_, fun a ps e => ?_⟩
  · obtain ⟨i, j, h2, r⟩ := p.two a q
    exact ⟨i, j, by rw [upd_ne (by rintro rfl; exact n (.inl q))]; exact h2, r⟩
  · obtain ⟨ps, h1, h2, h3⟩ := p.tabs t ht
    refine ⟨ps, by rw [upd_ne (by rintro e; exact n (.inr ⟨t.2, by rw [← e]; exact ht⟩))]; exact h1, h2, fun pos cv hc => ?_⟩
    obtain ⟨c, e1, e2⟩ := h3 pos cv hc
    exact ⟨c, e1, by rw [upd_ne (by rintro rfl; rw [h] at e2; cases e2)]; exact e2⟩
  · by_cases q : a = P
    · rw [q, upd_same] at e
      cases e
    · rw [upd_ne q] at e
      exact p.only a ps e
/-- a dict that is no changing place is changed -/
theorem PotAt.updD {z : Zp} {H : Hp} {P : Addr} {xs ys : List (Key × V)} (p : PotAt z H) (n : ¬ z.at P) (h : H P = some (.dK xs)) : PotAt z (L2.upd H P (.dK ys)) := by
  refine ⟨fun a q => ?_, fun t ht => ?_, fun a ps e => ?_⟩
  · obtain ⟨i, j, h2, r⟩ := p.two a q
    exact ⟨i, j, by rw [upd_ne (by rintro rfl; exact n (.inl q))]; exact h2, r⟩
  · obtain ⟨ps, h1, h2, h3⟩ := p.tabs t ht
    refine ⟨ps, by rw [upd_ne (by rintro e; exact n (.inr ⟨t.2, by rw [← e]; exact ht⟩))]; exact h1, h2, fun pos cv hc => ?_⟩
    obtain ⟨c, e1, e2⟩ := h3 pos cv hc
    exact ⟨c, e1, by rw [upd_ne (by rintro rfl; rw [h] at e2; cases e2)]; exact e2⟩
  · by_cases q : a = P
    · rw [q, upd_same] at e
      cases e
    · rw [upd_ne q] at e
      exact p.only a ps e
/-- no tuple -/
def NT (o : HO) : Prop := ∀ xs, o ≠ .tup xs
/-- the pot is one, and what is held elsewhere is there, and no tuple -/
structure Ok (z : Zp) (hs : Addr → Prop) (H : Hp) : Prop where
  pot : PotAt z H
  tr : ∀ a, hs a → ¬ z.at a ∧ ∃ o, H a = some o ∧ NT o
theorem Ok.next {z : Zp} {hs : Addr → Prop} {H H' : Hp} (p : Ok z hs H) (e : ExZ z H H') (q : PotAt z H') : Ok z hs H' :=
  ⟨q, fun a h => by
    obtain ⟨n, o, ho, nt⟩ := p.tr a h
    exact ⟨n, o, e a o n ho, nt⟩⟩
theorem Ok.new {z : Zp} {hs : Addr → Prop} {H : Hp} {p : Addr} {o : HO} (h : Ok z hs H) (n : H p = none) (nt : ∀ ps, o ≠ .tbl ps := by intro _ h; cases h) : Ok z hs (upd H p o) := h.next (ExZ.new n) (h.pot.keep (Ex.new n) fun a ps e => by
  by_cases q : a = p
  · rw [q, upd_same] at e
    exact absurd (Option.some.inj e) (nt ps)
  · rwa [upd_ne q] at e)
theorem Ok.off {z : Zp} {hs : Addr → Prop} {H : Hp} {p : Addr} (h : Ok z hs H) (n : H p = none) : ¬ z.at p ∧ ¬ hs p := by
  refine ⟨fun e => ?_, fun e => ?_⟩
  · rcases e with e | ⟨t, e⟩
    · obtain ⟨i, j, q, _⟩ := h.pot.two p e
      rw [n] at q
      cases q
    · obtain ⟨ps, q, _⟩ := h.pot.tabs _ e
      rw [n] at q
      cases q
  · obtain ⟨_, o, q, _⟩ := h.tr p e
    rw [n] at q
    cases q

/-! ### slots -/
inductive SR (z : Zp) (H : Hp) : L2.St → List (Option D) → Prop
  | nil : SR z H [] []
  | no {x : Option V} {σ : L2.St} {ρ : List (Option D)} : SR z H σ ρ → SR z H (x :: σ) (none :: ρ)
  | yes {v : V} {d : D} {σ : L2.St} {ρ : List (Option D)} : R z H v d → SR z H σ ρ → SR z H (some v :: σ) (some d :: ρ)
theorem SR.mono {z : Zp} {H H' : Hp} (e : Ex H H') {σ : L2.St} {ρ : List (Option D)} (h : SR z H σ ρ) : SR z H' σ ρ := by
  induction h with
  | nil => exact .nil
  | no _ ih => exact .no ih
  | yes h1 _ ih => exact .yes (R.mono e _ _ h1) ih
theorem SR.get {z : Zp} {H : Hp} {σ : L2.St} {ρ : List (Option D)} (h : SR z H σ ρ) : ∀ {i : Nat} {d : D}, ρ[i]? = some (some d) → ∃ v, σ[i]? = some (some v) ∧ R z H v d := by
  induction h with
  | nil => intro i d e; simp at e
  | no _ ih =>
    intro i d e
    cases i with
    | zero => simp at e
    | succ i => simpa using ih (by simpa using e)
  | yes h1 _ ih =>
    intro i d e
    cases i with
    | zero => simp at e; subst e; exact ⟨_, rfl, h1⟩
    | succ i => simpa using ih (by simpa using e)
theorem SR.set {z : Zp} {H : Hp} {v : V} {d : D} (r : R z H v d) {σ : L2.St} {ρ : List (Option D)} (h : SR z H σ ρ) : ∀ (i : Nat), SR z H (σ.set i (some v)) (ρ.set i (some d)) := by
  induction h with
  | nil => intro i; simp; exact .nil
  | no h ih =>
    intro i
    cases i with
    | zero => exact .yes r h
    | succ i => exact .no (ih i)
  | yes h1 h ih =>
    intro i
    cases i with
    | zero => exact .yes r h
    | succ i => exact .yes h1 (ih i)
theorem SR.none {z : Zp} {H : Hp} {σ : L2.St} {ρ : List (Option D)} (h : SR z H σ ρ) : ∀ (i : Nat), SR z H (σ.set i none) (ρ.set i none) := by
  induction h with
  | nil => intro i; simp; exact .nil
  | no h ih =>
    intro i
    cases i with
    | zero => exact .no h
    | succ i => exact .no (ih i)
  | yes h1 h ih =>
    intro i
    cases i with
    | zero => exact .no h
    | succ i => exact .yes h1 (ih i)
theorem SR.len {z : Zp} {H : Hp} {σ : L2.St} {ρ : List (Option D)} (h : SR z H σ ρ) : σ.length = ρ.length := by
  induction h with
  | nil => rfl
  | no _ ih => simp [ih]
  | yes _ _ ih => simp [ih]
def wipeD (ρ : List (Option D)) : List Nat → List (Option D)
  | [] => ρ
  | v :: vs => (wipeD ρ vs).set v none
theorem SR.wipe {z : Zp} {H : Hp} {σ : L2.St} {ρ : List (Option D)} (h : SR z H σ ρ) : ∀ vs : List Nat, SR z H (wipe σ vs) (wipeD ρ vs)
  | [] => h
  | v :: vs => (SR.wipe h vs).none v
def startD (N : List Str) (ds : List D) : List (Option D) := ds.map some ++ List.replicate (N.length - ds.length) none
theorem sr_nones {z : Zp} {H : Hp} : ∀ n : Nat, SR z H (List.replicate n none) (List.replicate n none)
  | 0 => .nil
  | n + 1 => .no (sr_nones n)
theorem sr_app {z : Zp} {H : Hp} {σ' : L2.St} {ρ' : List (Option D)} (g : SR z H σ' ρ') : ∀ {ds : List D} {vs : List V}, RA z H vs ds → SR z H (vs.map some ++ σ') (ds.map some ++ ρ')
  | [], _, h => by cases h; exact g
  | _ :: _, _, h => by cases h with | cons h1 h2 => exact .yes h1 (sr_app g h2)
theorem sr_start {z : Zp} {H : Hp} {N : List Str} {ds : List D} {vs : List V} (h : RA z H vs ds) : SR z H (L2.start N vs) (startD N ds) := by
  unfold L2.start startD
  rw [h.length]
  exact sr_app (sr_nones _) h

/-! ### what an expression gives, as data -/
section
variable (z : Zp)
/-- an end: v for d, in a heap in which all but the pot is as it was -/
def Wd (hs : Addr → Prop) (H : Hp) (P : D → Prop) (Q : VK) : Prop := ∀ v H' d, ExZ z H H' → Ok z hs H' → R z (hid z hs H') v d → P d → Q v H'
def E1 (te : TE) (ρ : List (Option D)) (P : D → Prop) : Prop := ∀ hs σ H, Ok z hs H → SR z (hid z hs H) σ ρ → ∀ Q : VK, Wd z hs H P Q → te σ H Q
def EA (ta : TA) (ρ : List (Option D)) (P : List D → Prop) : Prop := ∀ hs σ H, Ok z hs H → SR z (hid z hs H) σ ρ → ∀ Q : List V → Hp → Prop, (∀ vs H' ds, ExZ z H H' → Ok z hs H' → RA z (hid z hs H') vs ds → P ds → Q vs H') → ta σ H Q
def ET (tt : TT) (ρ : List (Option D)) (P : Bool → Prop) : Prop := ∀ hs σ H, Ok z hs H → SR z (hid z hs H) σ ρ → ∀ Q : Bool → Hp → Prop, (∀ b H', ExZ z H H' → Ok z hs H' → P b → Q b H') → tt σ H Q
def EO (tt : TO) (ρ : List (Option D)) (P : Option Int → Prop) : Prop := ∀ hs σ H, Ok z hs H → SR z (hid z hs H) σ ρ → ∀ Q : Option Int → Hp → Prop, (∀ b H', ExZ z H H' → Ok z hs H' → P b → Q b H') → tt σ H Q
/-- a two-place operation, a one-place one, a call, a method, by data -/
def O2 (r : R2) (d e : D) (P : D → Prop) : Prop := ∀ hs x y H, Ok z hs H → R z (hid z hs H) x d → R z (hid z hs H) y e → ∀ Q : VK, Wd z hs H P Q → r x y H Q
def O1 (r : V → Hp → VK → Prop) (d : D) (P : D → Prop) : Prop := ∀ hs x H, Ok z hs H → R z (hid z hs H) x d → ∀ Q : VK, Wd z hs H P Q → r x H Q
def OC (r : List V → Hp → VK → Prop) (ds : List D) (P : D → Prop) : Prop := ∀ hs xs H, Ok z hs H → RA z (hid z hs H) xs ds → ∀ Q : VK, Wd z hs H P Q → r xs H Q
def OM (r : V → List V → Hp → VK → Prop) (d : D) (ds : List D) (P : D → Prop) : Prop := ∀ hs x xs H, Ok z hs H → R z (hid z hs H) x d → RA z (hid z hs H) xs ds → ∀ Q : VK, Wd z hs H P Q → r x xs H Q
end
section
variable {z : Zp} {hs : Addr → Prop} {ρ : List (Option D)} {P P' : D → Prop} {PL : List D → Prop} {PB : Bool → Prop} {te ta tb tc : TE} {tr : TA} {tt tu : TT} {H H1 : Hp} {Q : VK}

theorem Wd.back (w : Wd z hs H P Q) (e : ExZ z H H1) : Wd z hs H1 P Q := fun v H' d e' p r q => w v H' d (e.trans e') p r q
theorem Wd.here (w : Wd z hs H P Q) (p : Ok z hs H) {v : V} {d : D} (r : R z (hid z hs H) v d) (q : P d) : Q v H := w v H d (ExZ.refl z H) p r q
theorem Wd.imp (w : Wd z hs H P Q) (h : ∀ d, P' d → P d) : Wd z hs H P' Q := fun v H' d e p r q => w v H' d e p r (h d q)

theorem e_var {i : Nat} {d : D} (h : ρ[i]? = some (some d)) (q : P d) : E1 z (tVar i) ρ P := fun hs σ H p s Q w => by
  obtain ⟨v, hv, r⟩ := s.get h
  exact ⟨v, hv, w.here p r q⟩
theorem e_int {i : Int} (q : P (.int i)) : E1 z (tC (.int i)) ρ P := fun hs σ H p s Q w => w.here p (.int i) q
theorem e_bl {i : Bool} (q : P (.bl i)) : E1 z (tC (.bl i)) ρ P := fun hs σ H p s Q w => w.here p (.bl i) q
theorem e_str {i : Str} (q : P (.str i)) : E1 z (tC (.str i)) ρ P := fun hs σ H p s Q w => w.here p (.str i) q
theorem e_non (q : P .non) : E1 z (tC .non) ρ P := fun hs σ H p s Q w => w.here p .non q
theorem e_raw {v : V} (q : P (.raw v)) : E1 z (tC v) ρ P := fun hs σ H p s Q w => w.here p (.raw v) q
theorem e_imp (h : E1 z te ρ P') (i : ∀ d, P' d → P d) : E1 z te ρ P := fun hs σ H p s Q w => h hs σ H p s Q (w.imp i)
theorem e_op {r : R2} (h : E1 z ta ρ fun d => E1 z tb ρ fun e => O2 z r d e P) : E1 z (tOp r ta tb) ρ P := fun hs σ H p s Q w =>
  h hs σ H p s _ fun x H1 d e1 p1 rx h1 => h1 hs σ H1 p1 (s.mono (exz_hid e1)) _ fun y H2 e e2 p2 ry h2 => h2 hs x y H2 p2 (R.mono (exz_hid e2) _ _ rx) ry Q (w.back (e1.trans e2))
theorem e_un {r : V → Hp → VK → Prop} (h : E1 z ta ρ fun d => O1 z r d P) : E1 z (tUn r ta) ρ P := fun hs σ H p s Q w =>
  h hs σ H p s _ fun x H1 d e1 p1 rx h1 => h1 hs x H1 p1 rx Q (w.back e1)
theorem a_nil (q : PL []) : EA z tNil ρ PL := fun hs σ H p s Q w => w [] H [] (ExZ.refl z H) p .nil q
theorem a_cons (h : E1 z ta ρ fun d => EA z tr ρ fun ds => PL (d :: ds)) : EA z (tCons ta tr) ρ PL := fun hs σ H p s Q w =>
  h hs σ H p s _ fun x H1 d e1 p1 rx h1 => h1 hs σ H1 p1 (s.mono (exz_hid e1)) _ fun xs H2 ds e2 p2 rs q => w _ H2 _ (e1.trans e2) p2 (.cons (R.mono (exz_hid e2) _ _ rx) rs) q
theorem o_none {PO : Option Int → Prop} (q : PO none) : EO z tNoPart ρ PO := fun hs σ H p s Q w => w none H (ExZ.refl z H) p q
theorem o_some {PO : Option Int → Prop} (h : E1 z te ρ fun d => ∃ i, d = .int i ∧ PO (some i)) : EO z (tPart te) ρ PO := fun hs σ H p s Q w =>
  h hs σ H p s _ fun x H1 d e1 p1 rx ⟨i, ei, q⟩ => by
    subst ei
    cases rx
    exact ⟨i, rfl, w _ H1 e1 p1 q⟩
/-- a new object -/
theorem new_w (w : Wd z hs H P Q) (p : Ok z hs H) {a : Addr} (n : H a = none) {o : HO} {d : D} (r : ∀ H', H' a = some o → Ex (hid z hs H) H' → R z H' (.ref a) d) (q : P d) (nt : ∀ ps, o ≠ .tbl ps := by intro _ h; cases h) : Q (.ref a) (upd H a o) := by
  obtain ⟨n1, n2⟩ := p.off n
  refine w _ _ d (ExZ.new n) (p.new n nt) (r _ ?_ (exz_hid (ExZ.new n))) q
  rw [hid_ne n1 n2, upd_same]
theorem e_tup (h : EA z tr ρ fun ds => ds.length ≤ sizeLine ∧ P (.tup ds)) : E1 z (tTup tr) ρ P := fun hs σ H p s Q w =>
  h hs σ H p s _ fun xs H1 ds e1 p1 rs ⟨hl, q⟩ => ⟨by rw [rs.length]; exact hl, fun a n => new_w (w.back e1) p1 n (fun H' h1 h2 => .tup h1 (RA.mono h2 _ _ rs)) q⟩
theorem e_lst (h : EA z tr ρ fun ds => ds.length ≤ sizeLine ∧ P (.lst ds)) : E1 z (tLst tr) ρ P := fun hs σ H p s Q w =>
  h hs σ H p s _ fun xs H1 ds e1 p1 rs ⟨hl, q⟩ => ⟨by rw [rs.length]; exact hl, fun a n => new_w (w.back e1) p1 n (fun H' h1 h2 => .lst h1 (RA.mono h2 _ _ rs)) q⟩
theorem e_cb {r : List V → Hp → VK → Prop} (h : EA z tr ρ fun ds => OC z r ds P) : E1 z (tCB r tr) ρ P := fun hs σ H p s Q w =>
  h hs σ H p s _ fun xs H1 ds e1 p1 rs h1 => h1 hs xs H1 p1 rs Q (w.back e1)
theorem e_sl {r : V → Option Int → Option Int → Hp → VK → Prop} {tl th : TO} (h : E1 z te ρ fun d => EO z tl ρ fun lo => EO z th ρ fun hi => O1 z (fun x => r x lo hi) d P) : E1 z (tSl r te tl th) ρ P := fun hs σ H p s Q w =>
  h hs σ H p s _ fun x H1 d e1 p1 rx h1 => h1 hs σ H1 p1 (s.mono (exz_hid e1)) _ fun lo H2 e2 p2 h2 => h2 hs σ H2 p2 (s.mono (exz_hid (e1.trans e2))) _ fun hi H3 e3 p3 h3 =>
    h3 hs x H3 p3 (R.mono (exz_hid (e2.trans e3)) _ _ rx) Q (w.back (e1.trans (e2.trans e3)))
theorem e_if (h : ET z tt ρ fun b => if b = true then E1 z ta ρ P else E1 z tb ρ P) : E1 z (tIf tt ta tb) ρ P := fun hs σ H p s Q w =>
  h hs σ H p s _ fun b H1 e1 p1 h1 => by
    cases b with
    | true =>
      rw [if_pos rfl] at h1 ⊢
      exact h1 hs σ H1 p1 (s.mono (exz_hid e1)) Q (w.back e1)
    | false =>
      rw [if_neg (by decide)] at h1 ⊢
      exact h1 hs σ H1 p1 (s.mono (exz_hid e1)) Q (w.back e1)
theorem e_andV (h : E1 z ta ρ fun d => ∃ b, d = .bl b ∧ if b = true then E1 z tb ρ P else P (.bl false)) : E1 z (tAndV ta tb) ρ P := fun hs σ H p s Q w =>
  h hs σ H p s _ fun x H1 d e1 p1 rx ⟨b, eb, h1⟩ => by
    subst eb
    cases rx
    refine ⟨b, rfl, ?_⟩
    cases b with
    | true =>
      rw [if_pos rfl] at h1 ⊢
      exact h1 hs σ H1 p1 (s.mono (exz_hid e1)) Q (w.back e1)
    | false =>
      rw [if_neg (by decide)] at h1 ⊢
      exact (w.back e1).here p1 (.bl false) h1
theorem e_orV (h : E1 z ta ρ fun d => ∃ b, d = .bl b ∧ if b = true then P (.bl true) else E1 z tb ρ P) : E1 z (tOrV ta tb) ρ P := fun hs σ H p s Q w =>
  h hs σ H p s _ fun x H1 d e1 p1 rx ⟨b, eb, h1⟩ => by
    subst eb
    cases rx
    refine ⟨b, rfl, ?_⟩
    cases b with
    | true =>
      rw [if_pos rfl] at h1 ⊢
      exact (w.back e1).here p1 (.bl true) h1
    | false =>
      rw [if_neg (by decide)] at h1 ⊢
      exact h1 hs σ H1 p1 (s.mono (exz_hid e1)) Q (w.back e1)
theorem e_notV (h : E1 z ta ρ fun d => ∃ b, d = .bl b ∧ P (.bl (!b))) : E1 z (tNotV ta) ρ P := fun hs σ H p s Q w =>
  h hs σ H p s _ fun x H1 d e1 p1 rx ⟨b, eb, h1⟩ => by
    subst eb
    cases rx
    exact ⟨b, rfl, (w.back e1).here p1 (.bl _) h1⟩
theorem t_test (h : E1 z te ρ fun d => ∃ b, d = .bl b ∧ PB b) : ET z (tTest te) ρ PB := fun hs σ H p s Q w =>
  h hs σ H p s _ fun x H1 d e1 p1 rx ⟨b, eb, h1⟩ => by
    subst eb
    cases rx
    exact ⟨b, rfl, w b H1 e1 p1 h1⟩
theorem t_B (h : E1 z te ρ fun d => ∃ b, d = .bl b ∧ PB b) : ET z (tB te) ρ PB := t_test h
theorem t_and (h : ET z tt ρ fun b => if b = true then ET z tu ρ PB else PB false) : ET z (tAnd tt tu) ρ PB := fun hs σ H p s Q w =>
  h hs σ H p s _ fun b H1 e1 p1 h1 => by
    cases b with
    | true =>
      rw [if_pos rfl] at h1 ⊢
      exact h1 hs σ H1 p1 (s.mono (exz_hid e1)) Q fun b H2 e2 => w b H2 (e1.trans e2)
    | false =>
      rw [if_neg (by decide)] at h1 ⊢
      exact w false H1 e1 p1 h1
theorem t_or (h : ET z tt ρ fun b => if b = true then PB true else ET z tu ρ PB) : ET z (tOr tt tu) ρ PB := fun hs σ H p s Q w =>
  h hs σ H p s _ fun b H1 e1 p1 h1 => by
    cases b with
    | true =>
      rw [if_pos rfl] at h1 ⊢
      exact w true H1 e1 p1 h1
    | false =>
      rw [if_neg (by decide)] at h1 ⊢
      exact h1 hs σ H1 p1 (s.mono (exz_hid e1)) Q fun b H2 e2 => w b H2 (e1.trans e2)
theorem t_not (h : ET z tt ρ fun b => PB (!b)) : ET z (tNot tt) ρ PB := fun hs σ H p s Q w =>
  h hs σ H p s _ fun b H1 e1 p1 h1 => w _ H1 e1 p1 h1
theorem t_imp {PB' : Bool → Prop} (h : ET z tt ρ PB') (i : ∀ d, PB' d → PB d) : ET z tt ρ PB := fun hs σ H p s Q w => h hs σ H p s Q fun b H1 e1 p1 h1 => w b H1 e1 p1 (i b h1)
end

/-! ### slots of a def's frame: un nothing told, va data, ow a list that only this slot holds, ob an instance that is being made -/
inductive Sl where
  | un | va (d : D) | ow (ds : List D) | ob (a C : Addr) (fs : List (Str × D)) | od (ks : List Str)
/-- a dict of texts, each to True -/
def tkV (ks : List Str) : List (Key × V) := ks.map fun k => (.inr k, .bl true)
def tkD (ks : List Str) : List (Key × D) := ks.map fun k => (.inr k, .bl true)
theorem rk_tk {z : Zp} {G : Hp} : ∀ ks : List Str, RK z G (tkV ks) (tkD ks)
  | [] => .nil
  | _ :: ks => .cons (.bl true) (rk_tk ks)
/-- as an expression reads them: what is owned is not seen -/
def Sl.dat : Sl → Option D
  | .va d => some d
  | _ => none
/-- as an expression reads them whose value is flat: what is owned is a list -/
def Sl.see : Sl → Option D
  | .va d => some d
  | .ow ds => some (.lst ds)
  | .ob _ C fs => some (.obj C fs)
  | .od ks => some (.dct (tkD ks))
  | .un => none
end PD

set_option Elab.async false
set_option linter.all false
set_option maxRecDepth 100000
set_option maxHeartbeats 2000000
/-! PD2: statements over data; owned lists; walks; targets; a def's promise. -/
namespace PD
open PySem PySem.Spec L2

abbrev hsO (hs : Addr → Prop) (O : List Addr) : Addr → Prop := fun a => hs a ∨ a ∈ O
/-- the slots: what each holds; the owned lists' places in order -/
inductive SS (z : Zp) (G H : Hp) : L2.St → List Sl → List Addr → Prop
  | nil : SS z G H [] [] []
  | un {x : Option V} {σ : L2.St} {ρ : List Sl} {O : List Addr} : SS z G H σ ρ O → SS z G H (x :: σ) (.un :: ρ) O
  | va {v : V} {d : D} {σ : L2.St} {ρ : List Sl} {O : List Addr} : R z G v d → SS z G H σ ρ O → SS z G H (some v :: σ) (.va d :: ρ) O
  | ow {p : Addr} {vs : List V} {ds : List D} {σ : L2.St} {ρ : List Sl} {O : List Addr} : H p = some (.lst vs) → RA z G vs ds → SS z G H σ ρ O → SS z G H (some (.ref p) :: σ) (.ow ds :: ρ) (p :: O)
  | ob {p C dx : Addr} {xs : List (Str × V)} {ds : List (Str × D)} {σ : L2.St} {ρ : List Sl} {O : List Addr} : H p = some (.ins C dx xs) → RF z G xs ds → SS z G H σ ρ O → SS z G H (some (.ref p) :: σ) (.ob p C ds :: ρ) (p :: O)
  | od {p : Addr} {ks : List Str} {σ : L2.St} {ρ : List Sl} {O : List Addr} : H p = some (.dK (tkV ks)) → SS z G H σ ρ O → SS z G H (some (.ref p) :: σ) (.od ks :: ρ) (p :: O)
section
variable {z : Zp} {G G' H H' : Hp} {σ : L2.St} {ρ : List Sl} {O : List Addr}
theorem SS.len (h : SS z G H σ ρ O) : σ.length = ρ.length := by
  induction h with
  | nil => rfl
  | un _ ih => simp [ih]
  | va _ _ ih => simp [ih]
  | ow _ _ _ ih => simp [ih]
  | ob _ _ _ ih => simp [ih]
  | od _ _ ih => simp [ih]
theorem SS.there (h : SS z G H σ ρ O) : ∀ p ∈ O, ∃ o, H p = some o ∧ NT o := by
  induction h with
  | nil => intro p hp; cases hp
  | un _ ih => exact ih
  | va _ _ ih => exact ih
  | ow h1 _ _ ih =>
    intro p hp
    rcases List.mem_cons.mp hp with rfl | hp
    · exact ⟨_, h1, fun _ h => by cases h⟩
    · exact ih p hp
  | ob h1 _ _ ih =>
    intro p hp
    rcases List.mem_cons.mp hp with rfl | hp
    · exact ⟨_, h1, fun _ h => by cases h⟩
    · exact ih p hp
  | od h1 _ ih =>
    intro p hp
    rcases List.mem_cons.mp hp with rfl | hp
    · exact ⟨_, h1, fun _ h => by cases h⟩
    · exact ih p hp
theorem SS.mono (h : SS z G H σ ρ O) (e : Ex G G') (k : ∀ p ∈ O, ∀ o, H p = some o → H' p = some o) : SS z G' H' σ ρ O := by
  induction h with
  | nil => exact .nil
  | un _ ih => exact .un (ih k)
  | va h1 _ ih => exact .va (R.mono e _ _ h1) (ih k)
  | ow h1 h2 _ ih => exact .ow (k _ (List.mem_cons_self ..) _ h1) (RA.mono e _ _ h2) (ih fun p hp => k p (List.mem_cons_of_mem _ hp))
  | ob h1 h2 _ ih => exact .ob (k _ (List.mem_cons_self ..) _ h1) (RF.mono e _ _ h2) (ih fun p hp => k p (List.mem_cons_of_mem _ hp))
  | od h1 _ ih => exact .od (k _ (List.mem_cons_self ..) _ h1) (ih fun p hp => k p (List.mem_cons_of_mem _ hp))
theorem SS.dat (h : SS z G H σ ρ O) : SR z G σ (ρ.map Sl.dat) := by
  induction h with
  | nil => exact .nil
  | un _ ih => exact .no ih
  | va h1 _ ih => exact .yes h1 ih
  | ow _ _ _ ih => exact .no ih
  | ob _ _ _ ih => exact .no ih
  | od _ _ ih => exact .no ih
theorem SS.see (h : SS z G H σ ρ O) (e : Ex G G') (k : ∀ p ∈ O, ∀ o, H p = some o → G' p = some o) : SR z G' σ (ρ.map Sl.see) := by
  induction h with
  | nil => exact .nil
  | un _ ih => exact .no (ih k)
  | va h1 _ ih => exact .yes (R.mono e _ _ h1) (ih k)
  | ow h1 h2 _ ih => exact .yes (.lst (k _ (List.mem_cons_self ..) _ h1) (RA.mono e _ _ h2)) (ih fun p hp => k p (List.mem_cons_of_mem _ hp))
  | ob h1 h2 _ ih => exact .yes (.obj (k _ (List.mem_cons_self ..) _ h1) (RF.mono e _ _ h2)) (ih fun p hp => k p (List.mem_cons_of_mem _ hp))
  | od h1 _ ih => exact .yes (.dct (k _ (List.mem_cons_self ..) _ h1) (rk_tk _)) (ih fun p hp => k p (List.mem_cons_of_mem _ hp))
/-- a slot gets something else: what it owned is let go -/
theorem SS.setVa (h : SS z G H σ ρ O) {v : V} {d : D} (r : R z G v d) : ∀ i, ∃ O', O'.Sublist O ∧ SS z G H (σ.set i (some v)) (ρ.set i (.va d)) O' := by
  induction h with
  | nil => intro i; exact ⟨[], .slnil, by simp; exact .nil⟩
  | un h ih =>
    intro i
    cases i with
    | zero => exact ⟨_, List.Sublist.refl _, .va r h⟩
    | succ i =>
      obtain ⟨O', s, q⟩ := ih i
      exact ⟨O', s, .un q⟩
  | va h1 h ih =>
    intro i
    cases i with
    | zero => exact ⟨_, List.Sublist.refl _, .va r h⟩
    | succ i =>
      obtain ⟨O', s, q⟩ := ih i
      exact ⟨O', s, .va h1 q⟩
  | ow h1 h2 h ih =>
    intro i
    cases i with
    | zero => exact ⟨_, List.sublist_cons_self _ _, .va r h⟩
    | succ i =>
      obtain ⟨O', s, q⟩ := ih i
      exact ⟨_ :: O', s.cons₂ _, .ow h1 h2 q⟩
  | ob h1 h2 h ih =>
    intro i
    cases i with
    | zero => exact ⟨_, List.sublist_cons_self _ _, .va r h⟩
    | succ i =>
      obtain ⟨O', s, q⟩ := ih i
      exact ⟨_ :: O', s.cons₂ _, .ob h1 h2 q⟩
  | od h1 h ih =>
    intro i
    cases i with
    | zero => exact ⟨_, List.sublist_cons_self _ _, .va r h⟩
    | succ i =>
      obtain ⟨O', s, q⟩ := ih i
      exact ⟨_ :: O', s.cons₂ _, .od h1 q⟩
theorem SS.setUn (h : SS z G H σ ρ O) (x : Option V) : ∀ i, ∃ O', O'.Sublist O ∧ SS z G H (σ.set i x) (ρ.set i .un) O' := by
  induction h with
  | nil => intro i; exact ⟨[], .slnil, by simp; exact .nil⟩
  | un h ih =>
    intro i
    cases i with
    | zero => exact ⟨_, List.Sublist.refl _, .un h⟩
    | succ i =>
      obtain ⟨O', s, q⟩ := ih i
      exact ⟨O', s, .un q⟩
  | va h1 h ih =>
    intro i
    cases i with
    | zero => exact ⟨_, List.Sublist.refl _, .un h⟩
    | succ i =>
      obtain ⟨O', s, q⟩ := ih i
      exact ⟨O', s, .va h1 q⟩
  | ow h1 h2 h ih =>
    intro i
    cases i with
    | zero => exact ⟨_, List.sublist_cons_self _ _, .un h⟩
    | succ i =>
      obtain ⟨O', s, q⟩ := ih i
      exact ⟨_ :: O', s.cons₂ _, .ow h1 h2 q⟩
  | ob h1 h2 h ih =>
    intro i
    cases i with
    | zero => exact ⟨_, List.sublist_cons_self _ _, .un h⟩
    | succ i =>
      obtain ⟨O', s, q⟩ := ih i
      exact ⟨_ :: O', s.cons₂ _, .ob h1 h2 q⟩
  | od h1 h ih =>
    intro i
    cases i with
    | zero => exact ⟨_, List.sublist_cons_self _ _, .un h⟩
    | succ i =>
      obtain ⟨O', s, q⟩ := ih i
      exact ⟨_ :: O', s.cons₂ _, .od h1 q⟩
/-- a slot gets a list of its own -/
theorem SS.setOw (h : SS z G H σ ρ O) {p : Addr} {vs : List V} {ds : List D} (hp : H p = some (.lst vs)) (r : RA z G vs ds) (np : p ∉ O) (nd : O.Nodup) : ∀ i, i < ρ.length → ∃ O', (∀ q ∈ O', q = p ∨ q ∈ O) ∧ O'.Nodup ∧ SS z G H (σ.set i (some (.ref p))) (ρ.set i (.ow ds)) O' := by
  induction h with
  | nil => intro i hi; simp at hi
  | un h ih =>
    intro i hi
    cases i with
    | zero => exact ⟨p :: _, fun q hq => List.mem_cons.mp hq, List.nodup_cons.mpr ⟨np, nd⟩, .ow hp r h⟩
    | succ i =>
      obtain ⟨O', s, n, q⟩ := ih np nd i (by simpa using hi)
      exact ⟨O', s, n, .un q⟩
  | va h1 h ih =>
    intro i hi
    cases i with
    | zero => exact ⟨p :: _, fun q hq => List.mem_cons.mp hq, List.nodup_cons.mpr ⟨np, nd⟩, .ow hp r h⟩
    | succ i =>
      obtain ⟨O', s, n, q⟩ := ih np nd i (by simpa using hi)
      exact ⟨O', s, n, .va h1 q⟩
  | @ow p' _ _ _ _ O₁ h1 h2 h ih =>
    intro i hi
    obtain ⟨n1, n2⟩ := List.nodup_cons.mp nd
    cases i with
    | zero => exact ⟨p :: O₁, fun q hq => (List.mem_cons.mp hq).imp id (List.mem_cons_of_mem _), List.nodup_cons.mpr ⟨fun q => np (List.mem_cons_of_mem _ q), n2⟩, .ow hp r h⟩
    | succ i =>
      obtain ⟨O', s, n, q⟩ := ih (fun q => np (List.mem_cons_of_mem _ q)) n2 i (by simpa using hi)
      refine ⟨p' :: O', fun q hq => ?_, List.nodup_cons.mpr ⟨fun q => ?_, n⟩, .ow h1 h2 q⟩
      · rcases List.mem_cons.mp hq with rfl | hq
        · exact .inr (List.mem_cons_self ..)
        · exact (s q hq).imp id (List.mem_cons_of_mem _)
      · rcases s _ q with e | e
        · exact np (by rw [← e]; exact List.mem_cons_self ..)
        · exact n1 e
  | @ob p' _ _ _ _ _ _ O₁ h1 h2 h ih =>
    intro i hi
    obtain ⟨n1, n2⟩ := List.nodup_cons.mp nd
    cases i with
    | zero => exact ⟨p :: O₁, fun q hq => (List.mem_cons.mp hq).imp id (List.mem_cons_of_mem _), List.nodup_cons.mpr ⟨fun q => np (List.mem_cons_of_mem _ q), n2⟩, .ow hp r h⟩
    | succ i =>
      obtain ⟨O', s, n, q⟩ := ih (fun q => np (List.mem_cons_of_mem _ q)) n2 i (by simpa using hi)
      refine ⟨p' :: O', fun q hq => ?_, List.nodup_cons.mpr ⟨fun q => ?_, n⟩, .ob h1 h2 q⟩
      · rcases List.mem_cons.mp hq with rfl | hq
        · exact .inr (List.mem_cons_self ..)
        · exact (s q hq).imp id (List.mem_cons_of_mem _)
      · rcases s _ q with e | e
        · exact np (by rw [← e]; exact List.mem_cons_self ..)
        · exact n1 e
  | @od p' _ _ _ O₁ h1 h ih =>
    intro i hi
    obtain ⟨n1, n2⟩ := List.nodup_cons.mp nd
    cases i with
    | zero => exact ⟨p :: O₁, fun q hq => (List.mem_cons.mp hq).imp id (List.mem_cons_of_mem _), List.nodup_cons.mpr ⟨fun q => np (List.mem_cons_of_mem _ q), n2⟩, .ow hp r h⟩
    | succ i =>
      obtain ⟨O', s, n, q⟩ := ih (fun q => np (List.mem_cons_of_mem _ q)) n2 i (by simpa using hi)
      refine ⟨p' :: O', fun q hq => ?_, List.nodup_cons.mpr ⟨fun q => ?_, n⟩, .od h1 q⟩
      · rcases List.mem_cons.mp hq with rfl | hq
        · exact .inr (List.mem_cons_self ..)
        · exact (s q hq).imp id (List.mem_cons_of_mem _)
      · rcases s _ q with e | e
        · exact np (by rw [← e]; exact List.mem_cons_self ..)
        · exact n1 e
/-- the list of a slot -/
theorem SS.own (h : SS z G H σ ρ O) : ∀ {i : Nat} {ds : List D}, ρ[i]? = some (.ow ds) → ∃ p vs, σ[i]? = some (some (.ref p)) ∧ p ∈ O ∧ H p = some (.lst vs) ∧ RA z G vs ds := by
  induction h with
  | nil => intro i ds e; simp at e
  | un _ ih =>
    intro i ds e
    cases i with
    | zero => simp at e
    | succ i => simpa using ih (by simpa using e)
  | va _ _ ih =>
    intro i ds e
    cases i with
    | zero => simp at e
    | succ i => simpa using ih (by simpa using e)
  | ow h1 h2 _ ih =>
    intro i ds e
    cases i with
    | zero =>
      simp at e
      subst e
      exact ⟨_, _, rfl, List.mem_cons_self .., h1, h2⟩
    | succ i =>
      obtain ⟨p, vs, a, b, c, d⟩ := ih (i := i) (by simpa using e)
      exact ⟨p, vs, by simpa using a, List.mem_cons_of_mem _ b, c, d⟩
  | ob h1 h2 _ ih =>
    intro i ds e
    cases i with
    | zero => simp at e
    | succ i =>
      obtain ⟨p, vs, a, b, c, d⟩ := ih (i := i) (by simpa using e)
      exact ⟨p, vs, by simpa using a, List.mem_cons_of_mem _ b, c, d⟩
  | od h1 _ ih =>
    intro i ds e
    cases i with
    | zero => simp at e
    | succ i =>
      obtain ⟨p, vs, a, b, c, d⟩ := ih (i := i) (by simpa using e)
      exact ⟨p, vs, by simpa using a, List.mem_cons_of_mem _ b, c, d⟩
/-- the instance of a slot -/
theorem SS.owni (h : SS z G H σ ρ O) : ∀ {i : Nat} {p C : Addr} {ds : List (Str × D)}, ρ[i]? = some (.ob p C ds) → ∃ dx vs, σ[i]? = some (some (.ref p)) ∧ p ∈ O ∧ H p = some (.ins C dx vs) ∧ RF z G vs ds := by
  induction h with
  | nil => intro i p C ds e; simp at e
  | un _ ih =>
    intro i p C ds e
    cases i with
    | zero => simp at e
    | succ i => simpa using ih (by simpa using e)
  | va _ _ ih =>
    intro i p C ds e
    cases i with
    | zero => simp at e
    | succ i => simpa using ih (by simpa using e)
  | ow h1 h2 _ ih =>
    intro i p C ds e
    cases i with
    | zero => simp at e
    | succ i =>
      obtain ⟨dx, vs, a, b, c, d⟩ := ih (i := i) (by simpa using e)
      exact ⟨dx, vs, by simpa using a, List.mem_cons_of_mem _ b, c, d⟩
  | ob h1 h2 _ ih =>
    intro i p C ds e
    cases i with
    | zero =>
      simp at e
      obtain ⟨rfl, rfl, rfl⟩ := e
      exact ⟨_, _, rfl, List.mem_cons_self .., h1, h2⟩
    | succ i =>
      obtain ⟨dx, vs, a, b, c, d⟩ := ih (i := i) (by simpa using e)
      exact ⟨dx, vs, by simpa using a, List.mem_cons_of_mem _ b, c, d⟩
  | od h1 _ ih =>
    intro i p C ds e
    cases i with
    | zero => simp at e
    | succ i =>
      obtain ⟨dx, vs, a, b, c, d⟩ := ih (i := i) (by simpa using e)
      exact ⟨dx, vs, by simpa using a, List.mem_cons_of_mem _ b, c, d⟩
/-- .. changed in place -/
theorem SS.change (h : SS z G H σ ρ O) (nd : O.Nodup) : ∀ {i : Nat} {ds ds' : List D} {p : Addr} {us : List V}, ρ[i]? = some (.ow ds) → σ[i]? = some (some (.ref p)) → RA z G us ds' →
    SS z G (upd H p (.lst us)) σ (ρ.set i (.ow ds')) O := by
  induction h with
  | nil => intro i ds ds' p us e; simp at e
  | un _ ih =>
    intro i ds ds' p us e e2 r
    cases i with
    | zero => simp at e
    | succ i => exact .un (ih nd (by simpa using e) (by simpa using e2) r)
  | va h1 _ ih =>
    intro i ds ds' p us e e2 r
    cases i with
    | zero => simp at e
    | succ i => exact .va h1 (ih nd (by simpa using e) (by simpa using e2) r)
  | ow h1 h2 h ih =>
    intro i ds ds' p us e e2 r
    obtain ⟨n1, n2⟩ := List.nodup_cons.mp nd
    cases i with
    | zero =>
      simp at e2
      subst e2
      refine .ow upd_same r (h.mono (fun _ _ q => q) fun q hq o ho => ?_)
      rw [upd_ne (fun z => n1 (by rw [← z]; exact hq))]
      exact ho
    | succ i =>
      have e' : _ := (List.getElem?_cons_succ ▸ e : _)
      obtain ⟨q, _, a, b, _, _⟩ := h.own (i := i) (ds := ds) (by simpa using e)
      have hqp : q = p := by
        have e2' := e2
        rw [List.getElem?_cons_succ, a] at e2'
        have := Option.some.inj (Option.some.inj e2')
        cases this
        rfl
      refine .ow ?_ h2 (ih n2 (by simpa using e) (by simpa using e2) r)
      rw [upd_ne (fun z => n1 (by rw [z, ← hqp]; exact b))]
      exact h1
  | @ob _ _ dx₁ _ _ _ _ _ h1 h2 h ih =>
    intro i ds ds' p us e e2 r
    obtain ⟨n1, n2⟩ := List.nodup_cons.mp nd
    cases i with
    | zero => simp at e
    | succ i =>
      have e' : _ := (List.getElem?_cons_succ ▸ e : _)
      obtain ⟨q, _, a, b, _, _⟩ := h.own (i := i) (ds := ds) (by simpa using e)
      have hqp : q = p := by
        have e2' := e2
        rw [List.getElem?_cons_succ, a] at e2'
        have := Option.some.inj (Option.some.inj e2')
        cases this
        rfl
      refine .ob (dx := dx₁) ?_ h2 (ih n2 (by simpa using e) (by simpa using e2) r)
      rw [upd_ne (fun z => n1 (by rw [z, ← hqp]; exact b))]
      exact h1
  | @od _ _ _ _ _ h1 h ih =>
    intro i ds ds' p us e e2 r
    obtain ⟨n1, n2⟩ := List.nodup_cons.mp nd
    cases i with
    | zero => simp at e
    | succ i =>
      have e' : _ := (List.getElem?_cons_succ ▸ e : _)
      obtain ⟨q, _, a, b, _, _⟩ := h.own (i := i) (ds := ds) (by simpa using e)
      have hqp : q = p := by
        have e2' := e2
        rw [List.getElem?_cons_succ, a] at e2'
        have := Option.some.inj (Option.some.inj e2')
        cases this
        rfl
      refine .od ?_ (ih n2 (by simpa using e) (by simpa using e2) r)
      rw [upd_ne (fun z => n1 (by rw [z, ← hqp]; exact b))]
      exact h1
/-- .. the instance -/
theorem SS.changeI (h : SS z G H σ ρ O) (nd : O.Nodup) : ∀ {i : Nat} {ds ds' : List (Str × D)} {p C dx : Addr} {us vs : List (Str × V)}, ρ[i]? = some (.ob p C ds) → H p = some (.ins C dx vs) → RF z G us ds' →
    SS z G (upd H p (.ins C dx us)) σ (ρ.set i (.ob p C ds')) O := by
  induction h with
  | nil => intro i ds ds' p C dx us vs e; simp at e
  | un _ ih =>
    intro i ds ds' p C dx us vs e e2 r
    cases i with
    | zero => simp at e
    | succ i => exact .un (ih nd (by simpa using e) e2 r)
  | va h1 _ ih =>
    intro i ds ds' p C dx us vs e e2 r
    cases i with
    | zero => simp at e
    | succ i => exact .va h1 (ih nd (by simpa using e) e2 r)
  | ow h1 h2 h ih =>
    intro i ds ds' p C dx us vs e e2 r
    obtain ⟨n1, n2⟩ := List.nodup_cons.mp nd
    cases i with
    | zero => simp at e
    | succ i =>
      obtain ⟨_, _, a, b, _, _⟩ := h.owni (i := i) (p := p) (C := C) (ds := ds) (by simpa using e)
      refine .ow ?_ h2 (ih n2 (by simpa using e) e2 r)
      rw [upd_ne (fun z => n1 (by rw [z]; exact b))]
      exact h1
  | @ob _ _ dx₁ _ _ _ _ _ h1 h2 h ih =>
    intro i ds ds' p C dx us vs e e2 r
    obtain ⟨n1, n2⟩ := List.nodup_cons.mp nd
    cases i with
    | zero =>
      simp at e
      obtain ⟨rfl, rfl, rfl⟩ := e
      refine .ob upd_same r (h.mono (fun _ _ q => q) fun q hq o ho => ?_)
      rw [upd_ne (fun z => n1 (by rw [← z]; exact hq))]
      exact ho
    | succ i =>
      obtain ⟨_, _, a, b, _, _⟩ := h.owni (i := i) (p := p) (C := C) (ds := ds) (by simpa using e)
      refine .ob (dx := dx₁) ?_ h2 (ih n2 (by simpa using e) e2 r)
      rw [upd_ne (fun z => n1 (by rw [z]; exact b))]
      exact h1
  | @od _ _ _ _ _ h1 h ih =>
    intro i ds ds' p C dx us vs e e2 r
    obtain ⟨n1, n2⟩ := List.nodup_cons.mp nd
    cases i with
    | zero => simp at e
    | succ i =>
      obtain ⟨_, _, a, b, _, _⟩ := h.owni (i := i) (p := p) (C := C) (ds := ds) (by simpa using e)
      refine .od ?_ (ih n2 (by simpa using e) e2 r)
      rw [upd_ne (fun z => n1 (by rw [z]; exact b))]
      exact h1
/-- a slot's list is no more its own -/
theorem SS.free (h : SS z G H σ ρ O) (nd : O.Nodup) (e : Ex G G') : ∀ {i : Nat} {ds : List D}, ρ[i]? = some (.ow ds) → (∀ p, σ[i]? = some (some (.ref p)) → ∀ o, H p = some o → G' p = some o) →
    ∃ O', O'.Sublist O ∧ (∀ p, σ[i]? = some (some (.ref p)) → p ∉ O') ∧ SS z G' H σ (ρ.set i (.va (.lst ds))) O' := by
  induction h with
  | nil => intro i ds e; simp at e
  | un _ ih =>
    intro i ds e' k
    cases i with
    | zero => simp at e'
    | succ i =>
      obtain ⟨O', s, n, q⟩ := ih nd (i := i) (ds := ds) (by simpa using e') (by simpa using k)
      exact ⟨O', s, by simpa using n, .un q⟩
  | va h1 _ ih =>
    intro i ds e' k
    cases i with
    | zero => simp at e'
    | succ i =>
      obtain ⟨O', s, n, q⟩ := ih nd (i := i) (ds := ds) (by simpa using e') (by simpa using k)
      exact ⟨O', s, by simpa using n, .va (R.mono e _ _ h1) q⟩
  | @ow p _ _ _ _ O₁ h1 h2 h ih =>
    intro i ds e' k
    obtain ⟨n1, n2⟩ := List.nodup_cons.mp nd
    cases i with
    | zero =>
      simp at e'
      subst e'
      refine ⟨O₁, List.sublist_cons_self _ _, fun q hq => ?_, .va (.lst (k p (by simp) _ h1) (RA.mono e _ _ h2)) (h.mono e fun _ _ _ q => q)⟩
      simp at hq
      subst hq
      exact n1
    | succ i =>
      obtain ⟨O', s, n, q⟩ := ih n2 (i := i) (ds := ds) (by simpa using e') (by simpa using k)
      obtain ⟨q', _, a, b, _, _⟩ := h.own (i := i) (ds := ds) (by simpa using e')
      refine ⟨p :: O', s.cons₂ _, fun x hx hm => ?_, .ow h1 (RA.mono e _ _ h2) q⟩
      have hx' := hx
      rw [List.getElem?_cons_succ] at hx'
      rcases List.mem_cons.mp hm with rfl | hm
      · have e3 : q' = x := by
          rw [a] at hx'
          have := Option.some.inj (Option.some.inj hx')
          cases this
          rfl
        exact n1 (by rw [← e3]; exact b)
      · exact n x hx' hm
  | @ob p _ _ _ _ _ _ O₁ h1 h2 h ih =>
    intro i ds e' k
    obtain ⟨n1, n2⟩ := List.nodup_cons.mp nd
    cases i with
    | zero => simp at e'
    | succ i =>
      obtain ⟨O', s, n, q⟩ := ih n2 (i := i) (ds := ds) (by simpa using e') (by simpa using k)
      obtain ⟨q', _, a, b, _, _⟩ := h.own (i := i) (ds := ds) (by simpa using e')
      refine ⟨p :: O', s.cons₂ _, fun x hx hm => ?_, .ob h1 (RF.mono e _ _ h2) q⟩
      have hx' := hx
      rw [List.getElem?_cons_succ] at hx'
      rcases List.mem_cons.mp hm with rfl | hm
      · have e3 : q' = x := by
          rw [a] at hx'
          have := Option.some.inj (Option.some.inj hx')
          cases this
          rfl
        exact n1 (by rw [← e3]; exact b)
      · exact n x hx' hm
  | @od p _ _ _ O₁ h1 h ih =>
    intro i ds e' k
    obtain ⟨n1, n2⟩ := List.nodup_cons.mp nd
    cases i with
    | zero => simp at e'
    | succ i =>
      obtain ⟨O', s, n, q⟩ := ih n2 (i := i) (ds := ds) (by simpa using e') (by simpa using k)
      obtain ⟨q', _, a, b, _, _⟩ := h.own (i := i) (ds := ds) (by simpa using e')
      refine ⟨p :: O', s.cons₂ _, fun x hx hm => ?_, .od h1 q⟩
      have hx' := hx
      rw [List.getElem?_cons_succ] at hx'
      rcases List.mem_cons.mp hm with rfl | hm
      · have e3 : q' = x := by
          rw [a] at hx'
          have := Option.some.inj (Option.some.inj hx')
          cases this
          rfl
        exact n1 (by rw [← e3]; exact b)
      · exact n x hx' hm
theorem SS.setOd (h : SS z G H σ ρ O) {p : Addr} {ks : List Str} (hp : H p = some (.dK (tkV ks))) (np : p ∉ O) (nd : O.Nodup) : ∀ i, i < ρ.length → ∃ O', (∀ q ∈ O', q = p ∨ q ∈ O) ∧ O'.Nodup ∧ SS z G H (σ.set i (some (.ref p))) (ρ.set i (.od ks)) O' := by
  induction h with
  | nil => intro i hi; simp at hi
  | un h ih =>
    intro i hi
    cases i with
    | zero => exact ⟨p :: _, fun q hq => List.mem_cons.mp hq, List.nodup_cons.mpr ⟨np, nd⟩, .od hp h⟩
    | succ i =>
      obtain ⟨O', s, n, q⟩ := ih np nd i (by simpa using hi)
      exact ⟨O', s, n, .un q⟩
  | va h1 h ih =>
    intro i hi
    cases i with
    | zero => exact ⟨p :: _, fun q hq => List.mem_cons.mp hq, List.nodup_cons.mpr ⟨np, nd⟩, .od hp h⟩
    | succ i =>
      obtain ⟨O', s, n, q⟩ := ih np nd i (by simpa using hi)
      exact ⟨O', s, n, .va h1 q⟩
  | @ow p' _ _ _ _ O₁ h1 h2 h ih =>
    intro i hi
    obtain ⟨n1, n2⟩ := List.nodup_cons.mp nd
    cases i with
    | zero => exact ⟨p :: O₁, fun q hq => (List.mem_cons.mp hq).imp id (List.mem_cons_of_mem _), List.nodup_cons.mpr ⟨fun q => np (List.mem_cons_of_mem _ q), n2⟩, .od hp h⟩
    | succ i =>
      obtain ⟨O', s, n, q⟩ := ih (fun q => np (List.mem_cons_of_mem _ q)) n2 i (by simpa using hi)
      refine ⟨p' :: O', fun q hq => ?_, List.nodup_cons.mpr ⟨fun q => ?_, n⟩, .ow h1 h2 q⟩
      · rcases List.mem_cons.mp hq with rfl | hq
        · exact .inr (List.mem_cons_self ..)
        · exact (s q hq).imp id (List.mem_cons_of_mem _)
      · rcases s _ q with e | e
        · exact np (by rw [← e]; exact List.mem_cons_self ..)
        · exact n1 e
  | @ob p' _ _ _ _ _ _ O₁ h1 h2 h ih =>
    intro i hi
    obtain ⟨n1, n2⟩ := List.nodup_cons.mp nd
    cases i with
    | zero => exact ⟨p :: O₁, fun q hq => (List.mem_cons.mp hq).imp id (List.mem_cons_of_mem _), List.nodup_cons.mpr ⟨fun q => np (List.mem_cons_of_mem _ q), n2⟩, .od hp h⟩
    | succ i =>
      obtain ⟨O', s, n, q⟩ := ih (fun q => np (List.mem_cons_of_mem _ q)) n2 i (by simpa using hi)
      refine ⟨p' :: O', fun q hq => ?_, List.nodup_cons.mpr ⟨fun q => ?_, n⟩, .ob h1 h2 q⟩
      · rcases List.mem_cons.mp hq with rfl | hq
        · exact .inr (List.mem_cons_self ..)
        · exact (s q hq).imp id (List.mem_cons_of_mem _)
      · rcases s _ q with e | e
        · exact np (by rw [← e]; exact List.mem_cons_self ..)
        · exact n1 e
  | @od p' _ _ _ O₁ h1 h ih =>
    intro i hi
    obtain ⟨n1, n2⟩ := List.nodup_cons.mp nd
    cases i with
    | zero => exact ⟨p :: O₁, fun q hq => (List.mem_cons.mp hq).imp id (List.mem_cons_of_mem _), List.nodup_cons.mpr ⟨fun q => np (List.mem_cons_of_mem _ q), n2⟩, .od hp h⟩
    | succ i =>
      obtain ⟨O', s, n, q⟩ := ih (fun q => np (List.mem_cons_of_mem _ q)) n2 i (by simpa using hi)
      refine ⟨p' :: O', fun q hq => ?_, List.nodup_cons.mpr ⟨fun q => ?_, n⟩, .od h1 q⟩
      · rcases List.mem_cons.mp hq with rfl | hq
        · exact .inr (List.mem_cons_self ..)
        · exact (s q hq).imp id (List.mem_cons_of_mem _)
      · rcases s _ q with e | e
        · exact np (by rw [← e]; exact List.mem_cons_self ..)
        · exact n1 e
theorem SS.ownd (h : SS z G H σ ρ O) : ∀ {i : Nat} {ks : List Str}, ρ[i]? = some (.od ks) → ∃ p, σ[i]? = some (some (.ref p)) ∧ p ∈ O ∧ H p = some (.dK (tkV ks)) := by
  induction h with
  | nil => intro i ks e; simp at e
  | un _ ih =>
    intro i ks e
    cases i with
    | zero => simp at e
    | succ i => simpa using ih (by simpa using e)
  | va _ _ ih =>
    intro i ks e
    cases i with
    | zero => simp at e
    | succ i => simpa using ih (by simpa using e)
  | ow h1 h2 _ ih =>
    intro i ks e
    cases i with
    | zero => simp at e
    | succ i =>
      obtain ⟨p, a, b, c⟩ := ih (i := i) (by simpa using e)
      exact ⟨p, by simpa using a, List.mem_cons_of_mem _ b, c⟩
  | ob h1 h2 _ ih =>
    intro i ks e
    cases i with
    | zero => simp at e
    | succ i =>
      obtain ⟨p, a, b, c⟩ := ih (i := i) (by simpa using e)
      exact ⟨p, by simpa using a, List.mem_cons_of_mem _ b, c⟩
  | od h1 _ ih =>
    intro i ks e
    cases i with
    | zero =>
      simp at e
      subst e
      exact ⟨_, rfl, List.mem_cons_self .., h1⟩
    | succ i =>
      obtain ⟨p, a, b, c⟩ := ih (i := i) (by simpa using e)
      exact ⟨p, by simpa using a, List.mem_cons_of_mem _ b, c⟩
theorem SS.changeD (h : SS z G H σ ρ O) (nd : O.Nodup) : ∀ {i : Nat} {ks ls : List Str} {p : Addr}, ρ[i]? = some (.od ks) → σ[i]? = some (some (.ref p)) →
    SS z G (upd H p (.dK (tkV ls))) σ (ρ.set i (.od ls)) O := by
  induction h with
  | nil => intro i ks ls p e; simp at e
  | un _ ih =>
    intro i ks ls p e e2
    cases i with
    | zero => simp at e
    | succ i => exact .un (ih nd (by simpa using e) (by simpa using e2))
  | va h1 _ ih =>
    intro i ks ls p e e2
    cases i with
    | zero => simp at e
    | succ i => exact .va h1 (ih nd (by simpa using e) (by simpa using e2))
  | ow h1 h2 h ih =>
    intro i ks ls p e e2
    obtain ⟨n1, n2⟩ := List.nodup_cons.mp nd
    cases i with
    | zero => simp at e
    | succ i =>
      have e' : _ := (List.getElem?_cons_succ ▸ e : _)
      obtain ⟨q, a, b, _⟩ := h.ownd (i := i) (ks := ks) (by simpa using e)
      have hqp : q = p := by
        have e2' := e2
        rw [List.getElem?_cons_succ, a] at e2'
        have := Option.some.inj (Option.some.inj e2')
        cases this
        rfl
      refine .ow ?_ h2 (ih n2 (by simpa using e) (by simpa using e2))
      rw [upd_ne (fun z => n1 (by rw [z, ← hqp]; exact b))]
      exact h1
  | @ob _ _ dx₁ _ _ _ _ _ h1 h2 h ih =>
    intro i ks ls p e e2
    obtain ⟨n1, n2⟩ := List.nodup_cons.mp nd
    cases i with
    | zero => simp at e
    | succ i =>
      have e' : _ := (List.getElem?_cons_succ ▸ e : _)
      obtain ⟨q, a, b, _⟩ := h.ownd (i := i) (ks := ks) (by simpa using e)
      have hqp : q = p := by
        have e2' := e2
        rw [List.getElem?_cons_succ, a] at e2'
        have := Option.some.inj (Option.some.inj e2')
        cases this
        rfl
      refine .ob (dx := dx₁) ?_ h2 (ih n2 (by simpa using e) (by simpa using e2))
      rw [upd_ne (fun z => n1 (by rw [z, ← hqp]; exact b))]
      exact h1
  | od h1 h ih =>
    intro i ks ls p e e2
    obtain ⟨n1, n2⟩ := List.nodup_cons.mp nd
    cases i with
    | zero =>
      simp at e2
      subst e2
      refine .od upd_same (h.mono (fun _ _ q => q) fun q hq o ho => ?_)
      rw [upd_ne (fun z => n1 (by rw [← z]; exact hq))]
      exact ho
    | succ i =>
      have e' : _ := (List.getElem?_cons_succ ▸ e : _)
      obtain ⟨q, a, b, _⟩ := h.ownd (i := i) (ks := ks) (by simpa using e)
      have hqp : q = p := by
        have e2' := e2
        rw [List.getElem?_cons_succ, a] at e2'
        have := Option.some.inj (Option.some.inj e2')
        cases this
        rfl
      refine .od ?_ (ih n2 (by simpa using e) (by simpa using e2))
      rw [upd_ne (fun z => n1 (by rw [z, ← hqp]; exact b))]
      exact h1
theorem SS.freeD (h : SS z G H σ ρ O) (nd : O.Nodup) (e : Ex G G') : ∀ {i : Nat} {ks : List Str}, ρ[i]? = some (.od ks) → (∀ p, σ[i]? = some (some (.ref p)) → ∀ o, H p = some o → G' p = some o) →
    ∃ O', O'.Sublist O ∧ (∀ p, σ[i]? = some (some (.ref p)) → p ∉ O') ∧ SS z G' H σ (ρ.set i (.va (.dct (tkD ks)))) O' := by
  induction h with
  | nil => intro i ks e; simp at e
  | un _ ih =>
    intro i ks e' k
    cases i with
    | zero => simp at e'
    | succ i =>
      obtain ⟨O', s, n, q⟩ := ih nd (i := i) (ks := ks) (by simpa using e') (by simpa using k)
      exact ⟨O', s, by simpa using n, .un q⟩
  | va h1 _ ih =>
    intro i ks e' k
    cases i with
    | zero => simp at e'
    | succ i =>
      obtain ⟨O', s, n, q⟩ := ih nd (i := i) (ks := ks) (by simpa using e') (by simpa using k)
      exact ⟨O', s, by simpa using n, .va (R.mono e _ _ h1) q⟩
  | @ow p _ _ _ _ O₁ h1 h2 h ih =>
    intro i ks e' k
    obtain ⟨n1, n2⟩ := List.nodup_cons.mp nd
    cases i with
    | zero => simp at e'
    | succ i =>
      obtain ⟨O', s, n, q⟩ := ih n2 (i := i) (ks := ks) (by simpa using e') (by simpa using k)
      obtain ⟨q', a, b, _⟩ := h.ownd (i := i) (ks := ks) (by simpa using e')
      refine ⟨p :: O', s.cons₂ _, fun x hx hm => ?_, .ow h1 (RA.mono e _ _ h2) q⟩
      have hx' := hx
      rw [List.getElem?_cons_succ] at hx'
      rcases List.mem_cons.mp hm with rfl | hm
      · have e3 : q' = x := by
          rw [a] at hx'
          have := Option.some.inj (Option.some.inj hx')
          cases this
          rfl
        exact n1 (by rw [← e3]; exact b)
      · exact n x hx' hm
  | @ob p _ _ _ _ _ _ O₁ h1 h2 h ih =>
    intro i ks e' k
    obtain ⟨n1, n2⟩ := List.nodup_cons.mp nd
    cases i with
    | zero => simp at e'
    | succ i =>
      obtain ⟨O', s, n, q⟩ := ih n2 (i := i) (ks := ks) (by simpa using e') (by simpa using k)
      obtain ⟨q', a, b, _⟩ := h.ownd (i := i) (ks := ks) (by simpa using e')
      refine ⟨p :: O', s.cons₂ _, fun x hx hm => ?_, .ob h1 (RF.mono e _ _ h2) q⟩
      have hx' := hx
      rw [List.getElem?_cons_succ] at hx'
      rcases List.mem_cons.mp hm with rfl | hm
      · have e3 : q' = x := by
          rw [a] at hx'
          have := Option.some.inj (Option.some.inj hx')
          cases this
          rfl
        exact n1 (by rw [← e3]; exact b)
      · exact n x hx' hm
  | @od p _ _ _ O₁ h1 h ih =>
    intro i ks e' k
    obtain ⟨n1, n2⟩ := List.nodup_cons.mp nd
    cases i with
    | zero =>
      simp at e'
      subst e'
      refine ⟨O₁, List.sublist_cons_self _ _, fun q hq => ?_, .va (.dct (k p (by simp) _ h1) (rk_tk _)) (h.mono e fun _ _ _ q => q)⟩
      simp at hq
      subst hq
      exact n1
    | succ i =>
      obtain ⟨O', s, n, q⟩ := ih n2 (i := i) (ks := ks) (by simpa using e') (by simpa using k)
      obtain ⟨q', a, b, _⟩ := h.ownd (i := i) (ks := ks) (by simpa using e')
      refine ⟨p :: O', s.cons₂ _, fun x hx hm => ?_, .od h1 q⟩
      have hx' := hx
      rw [List.getElem?_cons_succ] at hx'
      rcases List.mem_cons.mp hm with rfl | hm
      · have e3 : q' = x := by
          rw [a] at hx'
          have := Option.some.inj (Option.some.inj hx')
          cases this
          rfl
        exact n1 (by rw [← e3]; exact b)
      · exact n x hx' hm
end

/-- a state of a def's frame -/
structure St1 (z : Zp) (hs : Addr → Prop) (H : Hp) (σ : L2.St) (ρ : List Sl) (O : List Addr) : Prop where
  ok : Ok z hs H
  nd : O.Nodup
  off : ∀ p ∈ O, ¬ z.at p ∧ ¬ hs p
  ss : SS z (hid z (hsO hs O) H) H σ ρ O
/-- from one heap to a later one: all but the pot and the owned stays; what is owned newly is new -/
structure Nxt (z : Zp) (O O' : List Addr) (H H' : Hp) : Prop where
  keep : ∀ a o, ¬ z.at a → a ∉ O → H a = some o → H' a = some o
  new : ∀ p ∈ O', p ∈ O ∨ (¬ z.at p ∧ H p = none)
section
variable {z : Zp} {hs : Addr → Prop} {H H1 H' : Hp} {σ : L2.St} {ρ : List Sl} {O O1 O2 : List Addr}
theorem Nxt.refl : Nxt z O O H H := ⟨fun _ _ _ _ h => h, fun _ h => .inl h⟩
theorem Nxt.trans (a : Nxt z O O1 H H1) (b : Nxt z O1 O2 H1 H') : Nxt z O O2 H H' where
  keep := fun c o n hc h => b.keep c o n (fun q => by
    rcases a.new c q with q | ⟨_, q⟩
    · exact hc q
    · rw [h] at q; cases q) (a.keep c o n hc h)
  new := fun p hp => by
    rcases b.new p hp with q | ⟨n, q⟩
    · exact a.new p q
    · by_cases hO : p ∈ O
      · exact .inl hO
      · refine .inr ⟨n, ?_⟩
        cases e : H p with
        | none => rfl
        | some o => rw [a.keep p o n hO e] at q; cases q
theorem nxt_hid (e : Nxt z O O1 H H') : Ex (hid z (hsO hs O) H) (hid z (hsO hs O1) H') := fun a o h => by
  obtain ⟨n, m, h⟩ := hid_some h
  have hO : a ∉ O := fun q => m (.inr q)
  rw [hid_ne n (by
    rintro (q | q)
    · exact m (.inl q)
    · rcases e.new a q with q | ⟨_, q⟩
      · exact hO q
      · rw [h] at q; cases q)]
  exact e.keep a o n hO h
theorem Nxt.of (e : ExZ z H H') : Nxt z O O H H' := ⟨fun a o n _ h => e a o n h, fun _ h => .inl h⟩
theorem Nxt.less (e : ExZ z H H') (s : ∀ p ∈ O1, p ∈ O) : Nxt z O O1 H H' := ⟨fun a o n _ h => e a o n h, fun p h => .inl (s p h)⟩
theorem St1.okO (s : St1 z hs H σ ρ O) : Ok z (hsO hs O) H := ⟨s.ok.pot, fun a h => by
  rcases h with h | h
  · exact s.ok.tr a h
  · obtain ⟨vs, q⟩ := s.ss.there a h
    exact ⟨(s.off a h).1, _, q⟩⟩
/-- all but the pot stays: the state stays -/
theorem St1.next (s : St1 z hs H σ ρ O) (e : ExZ z H H') (p : Ok z hs H') : St1 z hs H' σ ρ O :=
  ⟨p, s.nd, s.off, s.ss.mono (exz_hid e) fun q hq o ho => e q o (s.off q hq).1 ho⟩
theorem okO_ok {H2 : Hp} (p : Ok z (hsO hs O) H2) : Ok z hs H2 := ⟨p.pot, fun a h => p.tr a (.inl h)⟩
theorem St1.setVa (s : St1 z hs H σ ρ O) {v : V} {d : D} (r : R z (hid z (hsO hs O) H) v d) (i : Nat) : ∃ O', (∀ p ∈ O', p ∈ O) ∧ St1 z hs H (σ.set i (some v)) (ρ.set i (.va d)) O' := by
  obtain ⟨O', sl, q⟩ := s.ss.setVa r i
  have sub : ∀ p ∈ O', p ∈ O := fun p hp => sl.subset hp
  exact ⟨O', sub, s.ok, s.nd.sublist sl, fun p hp => s.off p (sub p hp), q.mono (hid_less fun a h => h.imp id (sub a)) fun _ _ _ h => h⟩
theorem St1.setUn (s : St1 z hs H σ ρ O) (x : Option V) (i : Nat) : ∃ O', (∀ p ∈ O', p ∈ O) ∧ St1 z hs H (σ.set i x) (ρ.set i .un) O' := by
  obtain ⟨O', sl, q⟩ := s.ss.setUn x i
  have sub : ∀ p ∈ O', p ∈ O := fun p hp => sl.subset hp
  exact ⟨O', sub, s.ok, s.nd.sublist sl, fun p hp => s.off p (sub p hp), q.mono (hid_less fun a h => h.imp id (sub a)) fun _ _ _ h => h⟩
/-- a list at p that stands for ds, p new, becomes a slot's own -/
theorem St1.setOw (s : St1 z hs H σ ρ O) {p : Addr} {vs : List V} {ds : List D} (n1 : ¬ z.at p) (n2 : ¬ hs p) (n3 : p ∉ O) (hp : H p = some (.lst vs)) (r : RA z (hid z (hsO hs (p :: O)) H) vs ds) (wt : SS z (hid z (hsO hs (p :: O)) H) H σ ρ O) (i : Nat) (hi : i < ρ.length) :
    ∃ O', (∀ q ∈ O', q = p ∨ q ∈ O) ∧ St1 z hs H (σ.set i (some (.ref p))) (ρ.set i (.ow ds)) O' := by
  obtain ⟨O', sub, nd, q⟩ := wt.setOw hp r n3 s.nd i hi
  refine ⟨O', sub, s.ok, nd, fun q hq => ?_, q.mono (hid_less fun a h => ?_) fun _ _ _ h => h⟩
  · rcases sub q hq with rfl | h
    · exact ⟨n1, n2⟩
    · exact s.off q h
  · rcases h with h | h
    · exact .inl h
    · rcases sub a h with rfl | h
      · exact .inr (List.mem_cons_self ..)
      · exact .inr (List.mem_cons_of_mem _ h)
theorem hid_upd {p : Addr} {o : HO} (h : z.at p ∨ hs p) : hid z hs (upd H p o) = hid z hs H := by
  funext b
  unfold hid
  split
  · rfl
  · rename_i q
    rw [upd_ne (by rintro rfl; exact q h)]
theorem St1.setOd (s : St1 z hs H σ ρ O) {p : Addr} {ks : List Str} (n1 : ¬ z.at p) (n2 : ¬ hs p) (n3 : p ∉ O) (hp : H p = some (.dK (tkV ks))) (wt : SS z (hid z (hsO hs (p :: O)) H) H σ ρ O) (i : Nat) (hi : i < ρ.length) :
    ∃ O', (∀ q ∈ O', q = p ∨ q ∈ O) ∧ St1 z hs H (σ.set i (some (.ref p))) (ρ.set i (.od ks)) O' := by
  obtain ⟨O', sub, nd, q⟩ := wt.setOd hp n3 s.nd i hi
  refine ⟨O', sub, s.ok, nd, fun q hq => ?_, q.mono (hid_less fun a h => ?_) fun _ _ _ h => h⟩
  · rcases sub q hq with rfl | h
    · exact ⟨n1, n2⟩
    · exact s.off q h
  · rcases h with h | h
    · exact .inl h
    · rcases sub a h with rfl | h
      · exact .inr (List.mem_cons_self ..)
      · exact .inr (List.mem_cons_of_mem _ h)
/-- an own list is changed in place -/
theorem St1.change (s : St1 z hs H σ ρ O) {i : Nat} {ds ds' : List D} {p : Addr} {us : List V} (e : ρ[i]? = some (.ow ds)) (e2 : σ[i]? = some (some (.ref p))) (hp : p ∈ O) (r : RA z (hid z (hsO hs O) H) us ds') :
    Nxt z O O H (upd H p (.lst us)) ∧ St1 z hs (upd H p (.lst us)) σ (ρ.set i (.ow ds')) O := by
  have o1 := s.off p hp
  have q := s.ss.change s.nd e e2 r
  have hl : ∃ xs, H p = some (.lst xs) := by
    obtain ⟨p', vs, g1, _, g3, _⟩ := s.ss.own e
    rw [e2] at g1
    cases g1
    exact ⟨vs, g3⟩
  obtain ⟨xs, hl⟩ := hl
  refine ⟨⟨fun a o _ ha h => by rw [upd_ne (by rintro rfl; exact ha hp)]; exact h, fun _ h => .inl h⟩, ⟨s.ok.pot.upd o1.1 hl, fun a ha => ?_⟩, s.nd, s.off, ?_⟩
  · obtain ⟨n, o, h, nt⟩ := s.ok.tr a ha
    refine ⟨n, o, ?_, nt⟩
    rw [upd_ne (by rintro rfl; exact o1.2 ha)]
    exact h
  · rw [hid_upd (hs := hsO hs O) (.inr (.inr hp))]
    exact q
theorem St1.changeI (s : St1 z hs H σ ρ O) {i : Nat} {ds ds' : List (Str × D)} {p C dx : Addr} {us vs : List (Str × V)} (e : ρ[i]? = some (.ob p C ds)) (e2 : H p = some (.ins C dx vs)) (hp : p ∈ O) (r : RF z (hid z (hsO hs O) H) us ds') :
    Nxt z O O H (upd H p (.ins C dx us)) ∧ St1 z hs (upd H p (.ins C dx us)) σ (ρ.set i (.ob p C ds')) O := by
  have o1 := s.off p hp
  have q := s.ss.changeI s.nd e e2 r
  refine ⟨⟨fun a o _ ha h => by rw [upd_ne (by rintro rfl; exact ha hp)]; exact h, fun _ h => .inl h⟩, ⟨s.ok.pot.updI o1.1 e2, fun a ha => ?_⟩, s.nd, s.off, ?_⟩
  · obtain ⟨n, o, h, nt⟩ := s.ok.tr a ha
    refine ⟨n, o, ?_, nt⟩
    rw [upd_ne (by rintro rfl; exact o1.2 ha)]
    exact h
  · rw [hid_upd (hs := hsO hs O) (.inr (.inr hp))]
    exact q
theorem St1.changeD (s : St1 z hs H σ ρ O) {i : Nat} {ks ls : List Str} {p : Addr} (e : ρ[i]? = some (.od ks)) (e2 : σ[i]? = some (some (.ref p))) (hp : p ∈ O) :
    Nxt z O O H (upd H p (.dK (tkV ls))) ∧ St1 z hs (upd H p (.dK (tkV ls))) σ (ρ.set i (.od ls)) O := by
  have o1 := s.off p hp
  have q := s.ss.changeD (ls := ls) s.nd e e2
  have hl : H p = some (.dK (tkV ks)) := by
    obtain ⟨p', g1, _, g3⟩ := s.ss.ownd e
    rw [e2] at g1
    cases g1
    exact g3
  refine ⟨⟨fun a o _ ha h => by rw [upd_ne (by rintro rfl; exact ha hp)]; exact h, fun _ h => .inl h⟩, ⟨s.ok.pot.updD o1.1 hl, fun a ha => ?_⟩, s.nd, s.off, ?_⟩
  · obtain ⟨n, o, h, nt⟩ := s.ok.tr a ha
    refine ⟨n, o, ?_, nt⟩
    rw [upd_ne (by rintro rfl; exact o1.2 ha)]
    exact h
  · rw [hid_upd (hs := hsO hs O) (.inr (.inr hp))]
    exact q
theorem St1.free (s : St1 z hs H σ ρ O) {i : Nat} {ds : List D} (e : ρ[i]? = some (.ow ds)) : ∃ O', (∀ p ∈ O', p ∈ O) ∧ St1 z hs H σ (ρ.set i (.va (.lst ds))) O' := by
  obtain ⟨p, vs, a, b, c, d⟩ := s.ss.own e
  have o1 := s.off p b
  have key : ∀ O', O'.Sublist O → p ∉ O' → Ex (hid z (hsO hs O) H) (hid z (hsO hs O') H) := fun O' sl _ => hid_less fun a h => h.imp id fun q => sl.subset q
  obtain ⟨O', sl, n, q⟩ := s.ss.free (G' := fun b => if b = p then H b else hid z (hsO hs O) H b) s.nd (fun b o h => by
    show (if b = p then H b else hid z (hsO hs O) H b) = some o
    by_cases hb : b = p
    · rw [if_pos hb]; exact hid_sub b o h
    · rw [if_neg hb]; exact h) e (fun p' hp' o ho => by
      rw [a] at hp'
      have := Option.some.inj (Option.some.inj hp')
      cases this
      show (if p = p then H p else hid z (hsO hs O) H p) = some o
      rw [if_pos rfl]
      exact ho)
  have sub : ∀ p ∈ O', p ∈ O := fun p hp => sl.subset hp
  refine ⟨O', sub, s.ok, s.nd.sublist sl, fun p hp => s.off p (sub p hp), q.mono (fun b o h => ?_) fun _ _ _ h => h⟩
  have h : (if b = p then H b else hid z (hsO hs O) H b) = some o := h
  by_cases hb : b = p
  · rw [if_pos hb] at h
    rw [hb] at h ⊢
    rw [hid_ne o1.1 (by rintro (q | q); exact o1.2 q; exact n p a q)]
    exact h
  · rw [if_neg hb] at h
    exact key O' sl (n p a) b o h
theorem St1.freeD (s : St1 z hs H σ ρ O) {i : Nat} {ks : List Str} (e : ρ[i]? = some (.od ks)) : ∃ O', (∀ p ∈ O', p ∈ O) ∧ St1 z hs H σ (ρ.set i (.va (.dct (tkD ks)))) O' := by
  obtain ⟨p, a, b, c⟩ := s.ss.ownd e
  have o1 := s.off p b
  have key : ∀ O', O'.Sublist O → p ∉ O' → Ex (hid z (hsO hs O) H) (hid z (hsO hs O') H) := fun O' sl _ => hid_less fun a h => h.imp id fun q => sl.subset q
  obtain ⟨O', sl, n, q⟩ := s.ss.freeD (G' := fun b => if b = p then H b else hid z (hsO hs O) H b) s.nd (fun b o h => by
    show (if b = p then H b else hid z (hsO hs O) H b) = some o
    by_cases hb : b = p
    · rw [if_pos hb]; exact hid_sub b o h
    · rw [if_neg hb]; exact h) e (fun p' hp' o ho => by
      rw [a] at hp'
      have := Option.some.inj (Option.some.inj hp')
      cases this
      show (if p = p then H p else hid z (hsO hs O) H p) = some o
      rw [if_pos rfl]
      exact ho)
  have sub : ∀ p ∈ O', p ∈ O := fun p hp => sl.subset hp
  refine ⟨O', sub, s.ok, s.nd.sublist sl, fun p hp => s.off p (sub p hp), q.mono (fun b o h => ?_) fun _ _ _ h => h⟩
  have h : (if b = p then H b else hid z (hsO hs O) H b) = some o := h
  by_cases hb : b = p
  · rw [if_pos hb] at h
    rw [hb] at h ⊢
    rw [hid_ne o1.1 (by rintro (q | q); exact o1.2 q; exact n p a q)]
    exact h
  · rw [if_neg hb] at h
    exact key O' sl (n p a) b o h
end

/-! ### statements -/
/-- a statement: what holds behind it, of a return, of a break, of a continue; which exceptions it may raise, and the wish for them -/
structure Out where
  nx : List Sl → Prop
  rt : D → Prop
  bk : List Sl → Prop := fun _ => False
  ct : List Sl → Prop := fun _ => False
  px : Addr → List (Str × D) → Prop := fun _ _ => False
  E : XK := fun _ _ _ => True
section
variable (z : Zp)
def Go (hs : Addr → Prop) (H : Hp) (O : List Addr) (P : List Sl → Prop) (Q : L2.St → Hp → Prop) : Prop := ∀ σ' H' ρ' O', Nxt z O O' H H' → St1 z hs H' σ' ρ' O' → P ρ' → Q σ' H'
structure Went (hs : Addr → Prop) (H : Hp) (O : List Addr) (out : Out) (F : Ends) : Prop where
  nx : Go z hs H O out.nx F.nx
  rt : ∀ v H' d, (∀ a o, ¬ z.at a → a ∉ O → H a = some o → H' a = some o) → Ok z hs H' → R z (hid z hs H') v d → out.rt d → F.rt v H'
  bk : Go z hs H O out.bk F.bk
  ct : Go z hs H O out.ct F.ct
  ex : ∀ C fs dd H' vs, (∀ a o, ¬ z.at a → a ∉ O → H a = some o → H' a = some o) → Ok z hs H' → H' dd = some (.xd vs) → RF z (hid z hs H') vs fs → out.px C fs → out.E (.ref C) (some dd) H'
def X1 (ts : TS) (ρ : List Sl) (out : Out) : Prop := ∀ hs σ H O, St1 z hs H σ ρ O → ∀ F : Ends, Went z hs H O out F → ts F σ H
/-- a target gets data -/
def G1 (g : TG) (ρ : List Sl) (d : D) (N : List Sl → Prop) : Prop := ∀ hs σ H O, St1 z hs H σ ρ O → ∀ v, R z (hid z (hsO hs O) H) v d → ∀ Q, Go z hs H O N Q → g v σ H Q
def Gs1 (g : TGs) (ρ : List Sl) (ds : List D) (N : List Sl → Prop) : Prop := ∀ hs σ H O, St1 z hs H σ ρ O → ∀ vs, RA z (hid z (hsO hs O) H) vs ds → ∀ Q, Go z hs H O N Q → g vs σ H Q
end
section
variable {z : Zp} {hs : Addr → Prop} {H H1 : Hp} {O O1 : List Addr} {ρ : List Sl} {out : Out} {te ta tb : TE} {tr : TA} {tt : TT} {P : List Sl → Prop}
theorem Go.back {Q : L2.St → Hp → Prop} (w : Go z hs H O P Q) (e : Nxt z O O1 H H1) : Go z hs H1 O1 P Q := fun σ' H' ρ' O' e' => w σ' H' ρ' O' (e.trans e')
theorem Go.imp {P' : List Sl → Prop} {Q : L2.St → Hp → Prop} (w : Go z hs H O P Q) (i : ∀ ρ, P' ρ → P ρ) : Go z hs H O P' Q := fun σ' H' ρ' O' e s q => w σ' H' ρ' O' e s (i _ q)
theorem Went.back {F : Ends} (w : Went z hs H O out F) (e : Nxt z O O1 H H1) : Went z hs H1 O1 out F :=
  ⟨w.nx.back e, fun v H' d k => w.rt v H' d fun a o n ha h => k a o n (fun q => by
    rcases e.new a q with q | ⟨_, q⟩
    · exact ha q
    · rw [h] at q; cases q) (e.keep a o n ha h), w.bk.back e, w.ct.back e, fun C fs dd H' vs k => w.ex C fs dd H' vs fun a o n ha h => k a o n (fun q => by
    rcases e.new a q with q | ⟨_, q⟩
    · exact ha q
    · rw [h] at q; cases q) (e.keep a o n ha h)⟩

/-- an expression, what is owned not seen -/
theorem St1.ev {σ : L2.St} (s : St1 z hs H σ ρ O) {Pd : D → Prop} (h : E1 z te (ρ.map Sl.dat) Pd) {Q : VK} (k : ∀ v H' d, ExZ z H H' → St1 z hs H' σ ρ O → R z (hid z (hsO hs O) H') v d → Pd d → Q v H') : te σ H Q :=
  h (hsO hs O) σ H s.okO s.ss.dat Q fun v H' d e p r q => k v H' d e (s.next e (okO_ok p)) r q
theorem St1.evA {σ : L2.St} (s : St1 z hs H σ ρ O) {Pd : List D → Prop} (h : EA z tr (ρ.map Sl.dat) Pd) {Q : List V → Hp → Prop} (k : ∀ v H' d, ExZ z H H' → St1 z hs H' σ ρ O → RA z (hid z (hsO hs O) H') v d → Pd d → Q v H') : tr σ H Q :=
  h (hsO hs O) σ H s.okO s.ss.dat Q fun v H' d e p r q => k v H' d e (s.next e (okO_ok p)) r q
/-- .. seen -/
theorem St1.sr {σ : L2.St} (s : St1 z hs H σ ρ O) : SR z (hid z hs H) σ (ρ.map Sl.see) := s.ss.see (hid_less fun a h => .inl h) fun p hp o ho => by
  rw [hid_ne (s.off p hp).1 (s.off p hp).2]
  exact ho
theorem St1.see {σ : L2.St} (s : St1 z hs H σ ρ O) {Pd : D → Prop} (h : E1 z te (ρ.map Sl.see) Pd) {Q : VK} (k : ∀ v H' d, ExZ z H H' → St1 z hs H' σ ρ O → R z (hid z hs H') v d → Pd d → Q v H') : te σ H Q :=
  h hs σ H s.ok s.sr Q fun v H' d e p r q => k v H' d e (s.next e p) r q
theorem St1.seeT {σ : L2.St} (s : St1 z hs H σ ρ O) {Pd : Bool → Prop} (h : ET z tt (ρ.map Sl.see) Pd) {Q : Bool → Hp → Prop} (k : ∀ b H', ExZ z H H' → St1 z hs H' σ ρ O → Pd b → Q b H') : tt σ H Q :=
  h hs σ H s.ok s.sr Q fun b H' e p q => k b H' e (s.next e p) q
/-- data that lies in no heap -/
def flat : D → Bool
  | .non | .bl _ | .int _ | .str _ | .ty _ | .raw _ => true
  | _ => false
theorem flat_any {G G' : Hp} {v : V} {d : D} (f : flat d = true) (r : R z G v d) : R z G' v d := by
  cases d <;> first | (cases f; done) | skip
  all_goals (cases r; first | exact .non | exact .bl _ | exact .int _ | exact .str _ | exact .ty _ | exact .raw _)

theorem x_seq {t u : TS} (h : X1 z t ρ { out with nx := fun ρ' => X1 z u ρ' out }) : X1 z (tSeq t u) ρ out := fun hs σ H O s F w =>
  h hs σ H O s _ ⟨fun σ' H' ρ' O' e' s' q => q hs σ' H' O' s' F (w.back e'), w.rt, w.bk, w.ct, w.ex⟩
theorem x_next (h : out.nx ρ) : X1 z tNext ρ out := fun hs σ H O s F w => w.nx σ H ρ O Nxt.refl s h
theorem x_imp {ts : TS} {out' : Out} (h : X1 z ts ρ out') (i1 : ∀ ρ, out'.nx ρ → out.nx ρ) (i2 : ∀ d, out'.rt d → out.rt d) (i3 : ∀ ρ, out'.bk ρ → out.bk ρ) (i4 : ∀ ρ, out'.ct ρ → out.ct ρ) (i5 : ∀ C fs, out'.px C fs → out.px C fs ∧ ∀ d H, out.E (.ref C) d H → out'.E (.ref C) d H := by intro _ _ h; exact h.elim) : X1 z ts ρ out := fun hs σ H O s F w =>
  h hs σ H O s F ⟨w.nx.imp i1, fun v H' d k p r q => w.rt v H' d k p r (i2 d q), w.bk.imp i3, w.ct.imp i4, fun C fs dd H' vs k p g r q => (i5 C fs q).2 _ _ (w.ex C fs dd H' vs k p g r (i5 C fs q).1)⟩
theorem g_name {i : Nat} {d : D} {N : List Sl → Prop} (h : N (ρ.set i (.va d))) : G1 z (gName i) ρ d N := fun hs σ H O s v r Q w => by
  obtain ⟨O', sub, s'⟩ := s.setVa r i
  exact w _ _ _ O' (.less (ExZ.refl z H) sub) s' h
theorem gs_nil {N : List Sl → Prop} (h : N ρ) : Gs1 z gNil ρ [] N := fun hs σ H O s vs r Q w => by
  cases r
  exact ⟨rfl, w _ _ _ O Nxt.refl s h⟩
theorem gs_cons {g : TG} {gs : TGs} {d : D} {ds : List D} {N : List Sl → Prop} (h : G1 z g ρ d fun ρ' => Gs1 z gs ρ' ds N) : Gs1 z (gCons g gs) ρ (d :: ds) N := fun hs σ H O s vs r Q w => by
  cases r with
  | @cons v vs _ _ r1 r2 =>
    exact ⟨v, vs, rfl, h hs σ H O s v r1 _ fun σ' H' ρ' O' e s' q => q hs σ' H' O' s' vs (RA.mono (nxt_hid e) _ _ r2) Q (w.back e)⟩
theorem g_tup {K : PySem.W.Frag} {n : Nat} {gs : TGs} {d : D} {N : List Sl → Prop} (h : ∃ ds, d = .tup ds ∧ ds.length = n ∧ Gs1 z gs ρ ds N) : G1 z (gTup K n gs) ρ d N := fun hs σ H O s v r Q w => by
  obtain ⟨ds, rfl, hl, h⟩ := h
  cases r with
  | @tup a xs _ h1 h2 => exact ⟨a, xs, rfl, .inl (.inl (hid_sub a _ h1)), by rw [h2.length, hl], h hs σ H O s xs h2 Q w⟩
theorem x_asg {g : TG} (h : E1 z te (ρ.map Sl.dat) fun d => G1 z g ρ d out.nx) : X1 z (tAsg te g) ρ out := fun hs σ H O s F w =>
  s.ev h fun v H1 d e1 s1 r q => q hs σ H1 O s1 v r _ (w.nx.back (.of e1))
/-- an own list may be read where the value is flat -/
theorem x_asgF {i : Nat} (h : E1 z te (ρ.map Sl.see) fun d => flat d = true ∧ out.nx (ρ.set i (.va d))) : X1 z (tAsg te (gName i)) ρ out := fun hs σ H O s F w =>
  s.see h fun v H1 d e1 s1 r q => g_name q.2 hs σ H1 O s1 v (flat_any q.1 r) _ (w.nx.back (.of e1))
theorem x_drop (h : E1 z te (ρ.map Sl.see) fun _ => out.nx ρ) : X1 z (tDrop te) ρ out := fun hs σ H O s F w =>
  s.see h fun v H1 d e1 s1 r q => w.nx _ H1 _ O (.of e1) s1 q
theorem x_ret (h : E1 z te (ρ.map Sl.see) out.rt) : X1 z (tRet te) ρ out := fun hs σ H O s F w =>
  s.see h fun v H1 d e1 s1 r q => w.rt v H1 d (fun a o n _ k => e1 a o n k) s1.ok r q
theorem x_retN (h : out.rt .non) : X1 z tRetN ρ out := fun hs σ H O s F w => w.rt _ H _ (fun _ _ _ _ k => k) s.ok .non h
theorem x_if {t u : TS} (h : ET z tt (ρ.map Sl.see) fun b => if b = true then X1 z t ρ out else X1 z u ρ out) : X1 z (tIfS tt t u) ρ out := fun hs σ H O s F w =>
  s.seeT h fun b H1 e1 s1 h1 => by
    cases b with
    | true =>
      rw [if_pos rfl] at h1 ⊢
      exact h1 hs σ H1 O s1 F (w.back (.of e1))
    | false =>
      rw [if_neg (by decide)] at h1 ⊢
      exact h1 hs σ H1 O s1 F (w.back (.of e1))
theorem x_brk (h : out.bk ρ) : X1 z tBreak ρ out := fun hs σ H O s F w => w.bk σ H ρ O Nxt.refl s h
theorem x_cont (h : out.ct ρ) : X1 z tCont ρ out := fun hs σ H O s F w => w.ct σ H ρ O Nxt.refl s h
theorem x_par {i j : Nat} (h : EA z tr (ρ.map Sl.dat) fun ds => ∃ d e, ds = [d, e] ∧ out.nx ((ρ.set i (.va d)).set j (.va e))) : X1 z (tPar i j tr) ρ out := fun hs σ H O s F w =>
  s.evA h fun vs H1 ds e1 s1 rs ⟨d, e, eds, q⟩ => by
    subst eds
    cases rs with
    | cons r1 rs =>
      cases rs with
      | cons r2 rs =>
        cases rs
        refine ⟨_, _, rfl, ?_⟩
        obtain ⟨O1, sub, s2⟩ := s1.setVa r1 i
        have n1 : Nxt z O O1 H1 H1 := .less (ExZ.refl z H1) sub
        obtain ⟨O2, sub2, s3⟩ := s2.setVa (R.mono (nxt_hid n1) _ _ r2) j
        exact w.nx _ H1 _ O2 ((Nxt.of e1).trans (n1.trans (.less (ExZ.refl z H1) sub2))) s3 q
/-- an own list is shared from here on -/
theorem x_free {ts : TS} {i : Nat} {ds : List D} (e : ρ[i]? = some (.ow ds)) (h : X1 z ts (ρ.set i (.va (.lst ds))) out) : X1 z ts ρ out := fun hs σ H O s F w => by
  obtain ⟨O', sub, s'⟩ := s.free e
  exact h hs σ H O' s' F (w.back (.less (ExZ.refl z H) sub))
/-- what a slot holds is forgotten -/
theorem x_freeD {ts : TS} {i : Nat} {ks : List Str} (e : ρ[i]? = some (.od ks)) (h : X1 z ts (ρ.set i (.va (.dct (tkD ks)))) out) : X1 z ts ρ out := fun hs σ H O s F w => by
  obtain ⟨O', sub, s'⟩ := s.freeD e
  exact h hs σ H O' s' F (w.back (.less (ExZ.refl z H) sub))
theorem SS.drop {G H : Hp} {σ : L2.St} {ρ : List Sl} {O : List Addr} (h : SS z G H σ ρ O) : ∀ i, ∃ O', O'.Sublist O ∧ SS z G H σ (ρ.set i .un) O' := by
  induction h with
  | nil => intro i; exact ⟨[], .slnil, by simp; exact .nil⟩
  | un h ih =>
    intro i
    cases i with
    | zero => exact ⟨_, List.Sublist.refl _, .un h⟩
    | succ i =>
      obtain ⟨O', s, q⟩ := ih i
      exact ⟨O', s, .un q⟩
  | va h1 h ih =>
    intro i
    cases i with
    | zero => exact ⟨_, List.Sublist.refl _, .un h⟩
    | succ i =>
      obtain ⟨O', s, q⟩ := ih i
      exact ⟨O', s, .va h1 q⟩
  | ow h1 h2 h ih =>
    intro i
    cases i with
    | zero => exact ⟨_, List.sublist_cons_self _ _, .un h⟩
    | succ i =>
      obtain ⟨O', s, q⟩ := ih i
      exact ⟨_ :: O', s.cons₂ _, .ow h1 h2 q⟩
  | ob h1 h2 h ih =>
    intro i
    cases i with
    | zero => exact ⟨_, List.sublist_cons_self _ _, .un h⟩
    | succ i =>
      obtain ⟨O', s, q⟩ := ih i
      exact ⟨_ :: O', s.cons₂ _, .ob h1 h2 q⟩
  | od h1 h ih =>
    intro i
    cases i with
    | zero => exact ⟨_, List.sublist_cons_self _ _, .un h⟩
    | succ i =>
      obtain ⟨O', s, q⟩ := ih i
      exact ⟨_ :: O', s.cons₂ _, .od h1 q⟩
theorem x_forget {ts : TS} (i : Nat) (h : X1 z ts (ρ.set i .un) out) : X1 z ts ρ out := fun hs σ H O s F w => by
  obtain ⟨O', sl, q⟩ := s.ss.drop i
  have sub : ∀ p ∈ O', p ∈ O := fun p hp => sl.subset hp
  exact h hs σ H O' ⟨s.ok, s.nd.sublist sl, fun p hp => s.off p (sub p hp), q.mono (hid_less fun a h => h.imp id (sub a)) fun _ _ _ h => h⟩ F (w.back (.less (ExZ.refl z H) sub))
/-- i = [..]: a list of the slot's own -/
theorem x_own {i : Nat} (hi : i < ρ.length) (h : EA z tr (ρ.map Sl.dat) fun ds => ds.length ≤ sizeLine ∧ out.nx (ρ.set i (.ow ds))) : X1 z (tAsg (tLst tr) (gName i)) ρ out := fun hs σ H O s F w =>
  s.evA h fun vs H1 ds e1 s1 rs ⟨hl, q⟩ => ⟨by rw [rs.length]; exact hl, fun p n => by
    obtain ⟨n1, n2⟩ := s1.okO.off n
    have n3 : p ∉ O := fun q => n2 (.inr q)
    have e2 : ExZ z H1 (upd H1 p (.lst vs)) := ExZ.new n
    have s2 : St1 z hs (upd H1 p (.lst vs)) σ ρ O := s1.next e2 (s1.ok.new n)
    have key : Ex (hid z (hsO hs O) H1) (hid z (hsO hs (p :: O)) (upd H1 p (.lst vs))) := fun a o h => by
      obtain ⟨m1, m2, h⟩ := hid_some h
      have na : a ≠ p := ne_of_none h n
      rw [hid_ne m1 (by
        rintro (q | q)
        · exact m2 (.inl q)
        · rcases List.mem_cons.mp q with q | q
          · exact na q
          · exact m2 (.inr q)), upd_ne na]
      exact h
    obtain ⟨O', sub, s3⟩ := s2.setOw (p := p) n1 (fun q => n2 (.inl q)) n3 upd_same (RA.mono key _ _ rs) (s1.ss.mono key fun a ha o ho => by
      rw [upd_ne (by rintro rfl; exact n3 ha)]
      exact ho) i hi
    refine w.nx _ _ _ O' ((Nxt.of e1).trans ⟨fun a o m _ h => e2 a o m h, fun a ha => ?_⟩) s3 q
    rcases sub a ha with rfl | h
    · exact .inr ⟨n1, n⟩
    · exact .inl h⟩
/-- own.append(e) -/
theorem x_append {K : PySem.W.Frag} {i : Nat} {ds : List D} (he : ρ[i]? = some (.ow ds)) (hz : ds.length < sizeLine) (h : E1 z te (ρ.map Sl.dat) fun d => out.nx (ρ.set i (.ow (ds ++ [d])))) : X1 z (tDrop (tBM K "list" rAppend (tVar i) (tCons te tNil))) ρ out := fun hs σ H O s F w => by
  obtain ⟨p, vs, a, b, c, d⟩ := s.ss.own he
  refine ⟨.ref p, a, .inl ⟨rfl, vs, .inl (.inl c)⟩, ?_⟩
  refine s.ev h fun v H1 dd e1 s1 r q => ?_
  obtain ⟨p', vs', a', b', c', d'⟩ := s1.ss.own he
  have : p' = p := by
    rw [a] at a'
    have := Option.some.inj (Option.some.inj a')
    cases this
    rfl
  subst this
  refine ⟨p', vs', v, rfl, rfl, c', by rw [d'.length]; exact hz, ?_⟩
  obtain ⟨n, s2⟩ := s1.change he a b (d'.append (.cons r .nil))
  exact w.nx _ _ _ O ((Nxt.of e1).trans n) s2 q
theorem x_appendF {K : PySem.W.Frag} {i : Nat} {ds : List D} (he : ρ[i]? = some (.ow ds)) (hz : ds.length < sizeLine) (h : E1 z te (ρ.map Sl.see) fun d => flat d = true ∧ out.nx (ρ.set i (.ow (ds ++ [d])))) : X1 z (tDrop (tBM K "list" rAppend (tVar i) (tCons te tNil))) ρ out := fun hs σ H O s F w => by
  obtain ⟨p, vs, a, b, c, d⟩ := s.ss.own he
  refine ⟨.ref p, a, .inl ⟨rfl, vs, .inl (.inl c)⟩, ?_⟩
  refine s.see h fun v H1 dd e1 s1 r q => ?_
  obtain ⟨p', vs', a', b', c', d'⟩ := s1.ss.own he
  have : p' = p := by
    rw [a] at a'
    have := Option.some.inj (Option.some.inj a')
    cases this
    rfl
  subst this
  refine ⟨p', vs', v, rfl, rfl, c', by rw [d'.length]; exact hz, ?_⟩
  obtain ⟨n, s2⟩ := s1.change he a b (d'.append (.cons (flat_any q.1 r) .nil))
  exact w.nx _ _ _ O ((Nxt.of e1).trans n) s2 q.2

/-! ### walks -/
/-- from H1 on J gives n things, the i-th one for f i -/
def Wk (z : Zp) (hs : Addr → Prop) (J : It) (H1 : Hp) (n : Nat) (f : Nat → D) : Prop :=
  ∀ hs' H, Ok z hs' H → (∀ a o, ¬ z.at a → ¬ hs a → H1 a = some o → H a = some o ∧ ¬ hs' a) → ∀ i, (i < n → J.go i H ∧ ∀ x H', J.yld i H x H' → Ex H H' ∧ Ok z hs' H' ∧ R z (hid z hs' H') x (f i)) ∧ (n ≤ i → J.stop i H)
def EI (z : Zp) (wi : TI) (ρ : List (Option D)) (PI : Nat → (Nat → D) → Prop) : Prop := ∀ hs σ H, Ok z hs H → SR z (hid z hs H) σ ρ → ∀ Rr : It → Hp → Prop, (∀ J H1 n f, ExZ z H H1 → Ok z hs H1 → Wk z hs J H1 n f → PI n f → Rr J H1) → wi σ H Rr
theorem R.off {z : Zp} {hs hs' : Addr → Prop} {H H' : Hp} (k : ∀ a o, ¬ z.at a → ¬ hs a → H a = some o → H' a = some o ∧ ¬ hs' a) : Ex (hid z hs H) (hid z hs' H') := fun a o h => by
  obtain ⟨n, m, h⟩ := hid_some h
  obtain ⟨k1, k2⟩ := k a o n m h
  rw [hid_ne n k2]
  exact k1
theorem i_list {K : PySem.W.Frag} {tl : TE} {ρ : List (Option D)} {PI : Nat → (Nat → D) → Prop} (h : E1 z tl ρ fun d => ∃ ds, d = .lst ds ∧ PI ds.length fun i => ds.getD i .non) : EI z (iList K tl) ρ PI := fun hs σ H p s Rr w =>
  h hs σ H p s _ fun v H1 d e1 p1 r ⟨ds, ed, q⟩ => by
    subst ed
    cases r with
    | @lst a xs _ h1 h2 =>
      refine ⟨a, rfl, ⟨xs, .inl (.inl (hid_sub a _ h1))⟩, w _ H1 _ _ e1 p1 (fun hs' H' p' k i => ?_) q⟩
      obtain ⟨m1, m2, h1⟩ := hid_some h1
      have hq : SqL K H' a xs := .inl (.inl (k a _ m1 m2 h1).1)
      refine ⟨fun hi => ?_, fun hi => ⟨xs, hq, by rw [h2.length]; exact hi⟩⟩
      have hi' : i < xs.length := by rw [h2.length]; exact hi
      refine ⟨⟨xs, xs[i], hq, List.getElem?_eq_getElem hi'⟩, fun x H2 ⟨e, y⟩ => ?_⟩
      subst e
      refine ⟨fun _ _ q => q, p', ?_⟩
      obtain ⟨d, hd, r⟩ := h2.get (y xs hq)
      rw [List.getD_eq_getElem?_getD, hd]
      exact R.mono (R.off k) _ _ r
theorem i_tup {K : PySem.W.Frag} {tl : TE} {ρ : List (Option D)} {PI : Nat → (Nat → D) → Prop} (h : E1 z tl ρ fun d => ∃ ds, d = .tup ds ∧ PI ds.length fun i => ds.getD i .non) : EI z (iTup K tl) ρ PI := fun hs σ H p s Rr w =>
  h hs σ H p s _ fun v H1 d e1 p1 r ⟨ds, ed, q⟩ => by
    subst ed
    cases r with
    | @tup a xs _ h1 h2 =>
      refine ⟨a, rfl, ⟨xs, .inl (.inl (hid_sub a _ h1))⟩, w _ H1 _ _ e1 p1 (fun hs' H' p' k i => ?_) q⟩
      obtain ⟨m1, m2, h1⟩ := hid_some h1
      have hq : SqT K H' a xs := .inl (.inl (k a _ m1 m2 h1).1)
      refine ⟨fun hi => ?_, fun hi => ⟨xs, hq, by rw [h2.length]; exact hi⟩⟩
      have hi' : i < xs.length := by rw [h2.length]; exact hi
      refine ⟨⟨xs, xs[i], hq, List.getElem?_eq_getElem hi'⟩, fun x H2 ⟨e, y⟩ => ?_⟩
      subst e
      refine ⟨fun _ _ q => q, p', ?_⟩
      obtain ⟨d, hd, r⟩ := h2.get (y xs hq)
      rw [List.getD_eq_getElem?_getD, hd]
      exact R.mono (R.off k) _ _ r
theorem i_rng1 {ta : TA} {ρ : List (Option D)} {PI : Nat → (Nat → D) → Prop} (h : EA z ta ρ fun ds => ∃ j : Int, ds = [.int j] ∧ -(2 ^ 62) ≤ j ∧ j < 2 ^ 62 ∧ PI j.toNat fun i => .int (i : Nat)) : EI z (iRng1 ta) ρ PI := fun hs σ H p s Rr w =>
  h hs σ H p s _ fun vs H1 ds e1 p1 rs ⟨j, ed, l1, l2, q⟩ => by
    subst ed
    cases rs with
    | cons r1 rs =>
      cases rs
      cases r1
      refine ⟨j, rfl, l1, l2, w _ H1 _ _ e1 p1 (fun hs' H' p' k i => ⟨fun hi => ⟨hi, fun x H2 ⟨e, y⟩ => ?_⟩, fun hi => hi⟩) q⟩
      subst e
      subst y
      refine ⟨fun _ _ q => q, p', ?_⟩
      rw [Int.zero_add]
      exact .int _
theorem i_rng2 {ta : TA} {ρ : List (Option D)} {PI : Nat → (Nat → D) → Prop} (h : EA z ta ρ fun ds => ∃ i0 j : Int, ds = [.int i0, .int j] ∧ (-(2 ^ 62) ≤ i0 ∧ i0 < 2 ^ 62 ∧ -(2 ^ 62) ≤ j ∧ j < 2 ^ 62) ∧ PI (j - i0).toNat fun i => .int (i0 + (i : Nat))) : EI z (iRng2 ta) ρ PI := fun hs σ H p s Rr w =>
  h hs σ H p s _ fun vs H1 ds e1 p1 rs ⟨i0, j, ed, l1, q⟩ => by
    subst ed
    cases rs with
    | cons r1 rs =>
      cases rs with
      | cons r2 rs =>
        cases rs
        cases r1
        cases r2
        refine ⟨i0, j, rfl, l1, w _ H1 _ _ e1 p1 (fun hs' H' p' k i => ⟨fun hi => ⟨hi, fun x H2 ⟨e, y⟩ => ?_⟩, fun hi => hi⟩) q⟩
        subst e
        subst y
        exact ⟨fun _ _ q => q, p', .int _⟩
theorem i_enum {K : PySem.W.Frag} {ta : TA} {ρ : List (Option D)} {PI : Nat → (Nat → D) → Prop} (h : EA z ta ρ fun es => ∃ ds, es = [.lst ds] ∧ PI ds.length fun i => .tup [.int (i : Nat), ds.getD i .non]) : EI z (iEnum K ta) ρ PI := fun hs σ H p s Rr w =>
  h hs σ H p s _ fun vs H1 ds e1 p1 rs ⟨ds, ed, q⟩ => by
    subst ed
    cases rs with
    | cons r rs =>
      cases rs
      cases r with
      | @lst a xs _ h1 h2 =>
        refine ⟨a, xs, rfl, .inl (.inl (hid_sub a _ h1)), w _ H1 _ _ e1 p1 (fun hs' H' p' k i => ?_) q⟩
        obtain ⟨m1, m2, h1⟩ := hid_some h1
        have hq : SqL K H' a xs := .inl (.inl (k a _ m1 m2 h1).1)
        refine ⟨fun hi => ?_, fun hi => ⟨xs, hq, by rw [h2.length]; exact hi⟩⟩
        have hi' : i < xs.length := by rw [h2.length]; exact hi
        refine ⟨⟨xs, xs[i], hq, List.getElem?_eq_getElem hi'⟩, fun x H2 ⟨T, y, ex, n, e, g⟩ => ?_⟩
        subst e
        subst ex
        refine ⟨Ex.new n, p'.new n, ?_⟩
        obtain ⟨d, hd, r⟩ := h2.get (g xs hq)
        rw [List.getD_eq_getElem?_getD, hd]
        obtain ⟨n1, n2⟩ := p'.off n
        refine .tup (a := T) (by rw [hid_ne n1 n2, upd_same]) (.cons (.int _) (.cons (R.mono ?_ _ _ r) .nil))
        exact (R.off k).trans (exz_hid (ExZ.new n))
/-- for: a word of the turn and the slots -/
theorem x_for {wi : TI} {g : TG} {tb : TS} (h : EI z wi (ρ.map Sl.dat) fun n f => ∃ W : Nat → List Sl → Prop, W 0 ρ ∧ (∀ i ρi, i < n → W i ρi → G1 z g ρi (f i) fun ρ' => X1 z tb ρ' { out with nx := W (i + 1), ct := W (i + 1), bk := out.nx }) ∧ ∀ ρn, W n ρn → out.nx ρn) : X1 z (tFor wi g tb) ρ out := fun hs σ H O s F w =>
  h (hsO hs O) σ H s.okO s.ss.dat _ fun J H1 n f e1 p1 wk ⟨W, w0, w1, w2⟩ => by
    have s1 : St1 z hs H1 σ ρ O := s.next e1 (okO_ok p1)
    have w' := w.back (.of e1)
    refine ⟨fun i m σ' H' => m = n - i ∧ i ≤ n ∧ ∃ ρ' O', Nxt z O O' H1 H' ∧ St1 z hs H' σ' ρ' O' ∧ W i ρ', ⟨n, rfl, Nat.zero_le _, ρ, O, Nxt.refl, s1, w0⟩, ?_⟩
    rintro i m σ' H' ⟨rfl, hi, ρ', O', nx, s', hw⟩
    obtain ⟨q1, q2⟩ := wk (hsO hs O') H' s'.okO (fun a o n1 n2 h => ⟨nx.keep a o n1 (fun q => n2 (.inr q)) h, by
      rintro (q | q)
      · exact n2 (.inl q)
      · rcases nx.new a q with q | ⟨_, q⟩
        · exact n2 (.inr q)
        · rw [h] at q; cases q⟩) i
    by_cases hlt : i < n
    · obtain ⟨g1, g2⟩ := q1 hlt
      refine .inr ⟨g1, fun σ2 H2 => ∃ ρ2 O2, Nxt z O O2 H1 H2 ∧ St1 z hs H2 σ2 ρ2 O2 ∧ W (i + 1) ρ2, fun σ2 H2 q => ⟨n - (i + 1), by omega, rfl, hlt, q⟩, fun x H2 y => ?_⟩
      obtain ⟨ex, ok2, r⟩ := g2 x H2 y
      have e2 : ExZ z H' H2 := .of ex
      have s2 : St1 z hs H2 σ' ρ' O' := s'.next e2 (s'.ok.next e2 ok2.pot)
      refine w1 i ρ' hlt hw hs σ' H2 O' s2 x r _ fun σ3 H3 ρ3 O3 n3 s3 q3 => ?_
      have n13 : Nxt z O O3 H1 H3 := nx.trans ((Nxt.of e2).trans n3)
      refine q3 hs σ3 H3 O3 s3 _ ⟨fun σ4 H4 ρ4 O4 n4 s4 q4 => ⟨ρ4, O4, n13.trans n4, s4, q4⟩, (w'.back n13).rt, (w'.back n13).nx, fun σ4 H4 ρ4 O4 n4 s4 q4 => ⟨ρ4, O4, n13.trans n4, s4, q4⟩, (w'.back n13).ex⟩
    · have : i = n := by omega
      subst this
      exact .inl ⟨q2 (Nat.le_refl _), w'.nx _ _ _ O' nx s' (w2 _ hw)⟩
end
end PD

set_option Elab.async false
set_option linter.all false
set_option maxRecDepth 100000
set_option maxHeartbeats 2000000
/-! PD3: comprehensions; operators, calls and methods by data; a def's promise. -/
namespace PD
open PySem PySem.Spec L2

/-! ### comprehensions -/
def GE (z : Zp) (vs : List Nat) (g : TG) (ρ : List (Option D)) (d : D) (N : List (Option D) → Prop) : Prop := ∀ hs σ H, Ok z hs H → SR z (hid z hs H) σ ρ → ∀ v, R z (hid z hs H) v d → ∀ Q : L2.St → Hp → Prop,
  (∀ σ' H' ρ', ExZ z H H' → Ok z hs H' → SR z (hid z hs H') σ' ρ' → wipe σ' vs = wipe σ vs → N ρ' → Q σ' H') → g v σ H Q
theorem wipe_get (σ : L2.St) : ∀ (vs : List Nat) (i : Nat), (wipe σ vs)[i]? = if i ∈ vs then (if i < σ.length then some none else none) else σ[i]?
  | [], i => by simp [wipe]
  | v :: vs, i => by
    show ((wipe σ vs).set v none)[i]? = _
    rw [List.getElem?_set, wipe_length, wipe_get σ vs i]
    by_cases h : v = i
    · subst h
      simp
    · have h' : ¬ i = v := fun e => h e.symm
      simp [h, h']
theorem wipe_set {σ : L2.St} {vs : List Nat} {j : Nat} {x : Option V} (h : j ∈ vs) : wipe (σ.set j x) vs = wipe σ vs := by
  apply List.ext_getElem?
  intro i
  rw [wipe_get, wipe_get]
  by_cases hi : i ∈ vs
  · simp [hi]
  · rw [if_neg hi, if_neg hi, List.getElem?_set]
    rw [if_neg (by rintro rfl; exact hi h)]
theorem wipe_idem {σ : L2.St} {vs : List Nat} : wipe (wipe σ vs) vs = wipe σ vs := by
  apply List.ext_getElem?
  intro i
  rw [wipe_get, wipe_length]
  by_cases hi : i ∈ vs
  · rw [if_pos hi, wipe_get, if_pos hi]
  · rw [if_neg hi]
theorem ge_name {z : Zp} {vs : List Nat} {ρ : List (Option D)} {d : D} {N : List (Option D) → Prop} {i : Nat} (hi : i ∈ vs) (h : N (ρ.set i (some d))) : GE z vs (gName i) ρ d N := fun hs σ H p s v r Q w =>
  w _ H _ (ExZ.refl z H) p (s.set r i) (wipe_set hi) h
section
variable {z : Zp} {hs : Addr → Prop} {ρ : List (Option D)} {P P' : D → Prop} {PL : List D → Prop} {PB : Bool → Prop} {te ta tb tc : TE} {tr : TA} {tt tu : TT} {H H1 : Hp} {Q : VK}
theorem t_yes (h : PB true) : ET z tYes ρ PB := fun hs σ H p s Q w => w true H (ExZ.refl z H) p h
theorem e_lc {wi : TI} {g : TG} {vs : List Nat} (h : EI z wi ρ fun n f => n ≤ 1000000 ∧ ∃ W : Nat → List D → Prop, W 0 [] ∧ (∀ i acc, i < n → acc.length ≤ i → W i acc → GE z vs g (wipeD ρ vs) (f i) fun ρ' => ET z tt ρ' fun b => if b = true then E1 z te ρ' fun d => W (i + 1) (acc ++ [d]) else W (i + 1) acc) ∧
    ∀ acc, acc.length ≤ n → W n acc → P (.lst acc)) : E1 z (tLc wi g tt te vs) ρ P := fun hs σ H p s Q w =>
  h hs σ H p s _ fun J H1 n f e1 p1 wk ⟨hn, W, w0, w1, w2⟩ => by
    intro Dl nD
    obtain ⟨o1, o2⟩ := p1.off nD
    let hs' : Addr → Prop := fun a => hs a ∨ a = Dl
    have s1 := s.mono (exz_hid (hs := hs) e1)
    refine ⟨fun i m H' => m = n - i ∧ i ≤ n ∧ ExZ z H1 H' ∧ Ok z hs' H' ∧ ∃ av ad, H' Dl = some (.lst av) ∧ RA z (hid z hs' H') av ad ∧ ad.length ≤ i ∧ W i ad,
      ⟨n, rfl, Nat.zero_le _, ExZ.new nD, ⟨(p1.new nD).pot, fun a ha => ?_⟩, [], [], upd_same, .nil, Nat.le_refl _, w0⟩, ?_⟩
    · rcases ha with ha | ha
      · exact (p1.new nD).tr a ha
      · subst ha
        exact ⟨o1, _, upd_same, fun _ h => by cases h⟩
    rintro i m H' ⟨rfl, hi, ex, p', av, ad, hD, ra, hl, hw⟩
    obtain ⟨q1, q2⟩ := wk hs' H' p' (fun a o n1 n2 ha => ⟨ex a o n1 ha, by
      rintro (q | q)
      · exact n2 q
      · rw [q, nD] at ha; cases ha⟩) i
    by_cases hlt : i < n
    · obtain ⟨g1, g2⟩ := q1 hlt
      refine .inr ⟨g1, fun H2 => ExZ z H1 H2 ∧ Ok z hs' H2 ∧ ∃ av ad, H2 Dl = some (.lst av) ∧ RA z (hid z hs' H2) av ad ∧ ad.length ≤ i + 1 ∧ W (i + 1) ad, fun H2 q => ⟨n - (i + 1), by omega, rfl, hlt, q⟩, fun x H2 y => ?_⟩
      obtain ⟨xe, ok2, r⟩ := g2 x H2 y
      have e2 : ExZ z H' H2 := .of xe
      have p2 : Ok z hs' H2 := ok2
      have ex2 := ex.trans e2
      have s2 : SR z (hid z hs' H2) (wipe σ vs) (wipeD ρ vs) := (s1.mono fun a o ha => by
        obtain ⟨m1, m2, ha⟩ := hid_some ha
        rw [hid_ne m1 (by
          rintro (q | q)
          · exact m2 q
          · rw [q, nD] at ha; cases ha)]
        exact ex2 a o m1 ha).wipe vs
      refine w1 i ad hlt hl hw hs' _ H2 p2 s2 x r _ fun σ3 H3 ρ3 e3 p3 s3 hwp q3 => ⟨by rw [hwp, wipe_idem], ?_⟩
      refine q3 hs' σ3 H3 p3 s3 _ fun b H4 e4 p4 q4 => ?_
      have nDl : ¬ z.at Dl := o1
      have ex4 := e2.trans (e3.trans e4)
      cases b with
      | true =>
        rw [if_pos rfl] at q4 ⊢
        refine q4 hs' σ3 H4 p4 (s3.mono (exz_hid e4)) _ fun v H5 d e5 p5 r5 q5 => ?_
        have ex5 := ex4.trans e5
        have hD5 := ex5 Dl _ nDl hD
        have hidE : hid z hs' (upd H5 Dl (.lst (av ++ [v]))) = hid z hs' H5 := hid_upd (.inr (.inr rfl))
        refine ⟨av, hD5, ?_, fun a o m ha => ?_, ⟨?_, ?_⟩, av ++ [v], ad ++ [d], upd_same, ?_, by simp; omega, q5⟩
        · rw [ra.length]
          exact Nat.lt_of_le_of_lt hl (Nat.lt_of_lt_of_le (Nat.lt_of_lt_of_le hlt hn) (by decide))
        · rw [upd_ne (ne_of_none ha nD)]
          exact (ex.trans ex5) a o m ha
        · exact p5.pot.upd nDl hD5
        · exact fun a ha => by
            obtain ⟨n1, o, ho, nt⟩ := p5.tr a ha
            by_cases e : a = Dl
            · subst e
              exact ⟨n1, _, upd_same, fun _ h => by cases h⟩
            · exact ⟨n1, o, by rw [upd_ne e]; exact ho, nt⟩
        · rw [hidE]
          exact (RA.mono (exz_hid ex5) _ _ ra).append (.cons r5 .nil)
      | false =>
        rw [if_neg (by decide)] at q4 ⊢
        exact ⟨ex.trans ex4, p4, av, ad, ex4 Dl _ nDl hD, RA.mono (exz_hid ex4) _ _ ra, by omega, q4⟩
    · have : i = n := by omega
      subst this
      refine .inl ⟨q2 (Nat.le_refl _), w _ H' _ (e1.trans ex) ⟨p'.pot, fun a ha => p'.tr a (.inl ha)⟩ (.lst ?_ (RA.mono (hid_less fun a => .inl) _ _ ra)) (w2 ad hl hw)⟩
      rw [hid_ne o1 o2]
      exact hD
end
end PD

set_option Elab.async false
set_option linter.all false
set_option maxRecDepth 100000
set_option maxHeartbeats 4000000
/-! PX1: exceptions of own classes made as values, over any of the built-in bases; with keywords too. -/
namespace PX
open PySem PySem.W PySem.PX Builtin Builtin.ObjectAttr
section
variable {M : Model} {prog : Program} {w : World} {A : Around} {E : Value → Shared → Prop} {R : Result → Shared → Prop} {hp : Heap} {g : Array GenState} {d : Drawn} {t : Nat} {os : OsState}
variable {nm q : Str} {C N : Addr} {bs bm bmB : List Value} {hdct : Bool} {sn : List Str} {sub : List Value} {ab : Bool} {col : Option Bool} {dd : Option Addr} {k0 k1 k2 k3 k5 : Option Value} {B newId initId : String}
theorem checkNew (F : ExcBaseFacts B newId initId bmB) (hT : ∀ X : String, bm.contains (.type X) = bmB.contains (.type X)) {us : List Value} {kw : List (Str × Value)} {Q : Unit → Shared → Prop}
    (hC : hp.get? C = some (excClassObj nm q C N bs bm hdct sn sub ab col dd k0 k1 k2 k3 k5 newId)) (hq : Q () ⟨hp, g, d, t, os⟩) : wpAny M A (checkBuiltinCall newId ⟨.ref C :: us, kw⟩) Q E ⟨hp, g, d, t, os⟩ := by
  have hcb : (Value.ref C :: bm).contains (.type B) = true := by rw [List.contains_cons, hT, F.hasB, Bool.or_true]
  have hns := F.noStar
  simp only [checkBuiltinCall, F.newKind, F.newSplit, F.newRow]
  repeat (first | refine wpAny_loadPart_at hC ?_ | (refine wpAny_isSubtype_exc hC ?_; rw [hcb]) | refine wpAny_staticBase_exc hC ?_ | refine wpAny_madeBy_exc hC ?_ | simp only [bne_self_eq_false, Bool.false_eq_true, if_false] | wp_step)
  exact hq
/-- BaseException.__new__ of the class at C, whatever keywords -/
theorem madeNew (F : ExcBaseFacts B newId initId bmB) (hT : ∀ X : String, bm.contains (.type X) = bmB.contains (.type X)) {us : List Value} {kw : List (Str × Value)}
    (hC : hp.get? C = some (excClassObj nm q C N bs bm hdct sn sub ab col dd k0 k1 k2 k3 k5 newId)) (hz : us.length ≤ sizeLine)
    (hq : R (.ok (.ret (.ref (hp.objs.size + 1)))) ⟨(hp.push (kdv_tup us)).push (excO C hp.objs.size), g, d, t, os⟩) : codeAny (model prog w) A (.builtin newId ⟨.ref C :: us, kw⟩) R ⟨hp, g, d, t, os⟩ := by
  have e1 := F.ends
  have cB : (Value.ref C :: bm).contains (.type B) = true := by rw [List.contains_cons, hT, F.hasB, Bool.or_true]
  have cA : (Value.ref C :: bm).contains (.type "AttributeError") = false := by rw [List.contains_cons, hT, F.noAttr]; rfl
  have cN : (Value.ref C :: bm).contains (.type "NameError") = false := by rw [List.contains_cons, hT, F.noName]; rfl
  refine codeAny_builtinAt F.entry ?_
  unfold Builtin.«BaseException.__new__»
  refine wpAt_bind ?_
  show wpAt _ _ _ (stack >>= _) _ _ _
  refine wpAt_bind (wpAt_stack fun p below => wpAt_of_wpAny ?_)
  wp_walk
  refine wpAt_of_wpAny ?_
  rw [F.owner]
  repeat (first | with_reducible refine wpAny_madeHere_exc F.canon hC ?_ | with_reducible refine wpAny_loadPart_at hC ?_ | (with_reducible refine wpAny_isSubtype_exc hC ?_; first | rw [cB] | rw [cA] | rw [cN]) | wp_step)
  show R _ _
  rw [Heap.size_push]
  exact hq
theorem typeCall (F : ExcBaseFacts B newId initId bmB) (hT : ∀ X : String, bm.contains (.type X) = bmB.contains (.type X)) {us : List Value} {kw : List (Str × Value)} {fI : Addr} {Q : Fin → Shared → Prop}
    (hC : hp.get? C = some (excClassObj nm q C N bs bm hdct sn sub ab col dd k0 k1 k2 k3 k5 newId)) (hz : us.length ≤ sizeLine)
    (hi : Looks (model prog w) hp (typeLookup (.ref C) "__init__") (some (.ref fI))) (hb : ∀ self, Looks (model prog w) hp (bindSpecial (.ref fI) self) (.ref fI, [self]))
    (hq : codeAny (model prog w) A (.call (.ref fI) ⟨.ref (hp.objs.size + 1) :: us, kw⟩)
      (fun r s' => match r with | .ok (.ret v) => v = .none ∧ Q (.done (.ret (.ref (hp.objs.size + 1)))) s' | .ok _ => False | .error e => E e s') ⟨(hp.push (kdv_tup us)).push (excO C hp.objs.size), g, d, t, os⟩) :
    wpAny (model prog w) A (Builtin.«type.__call__» ⟨.ref C :: us, kw⟩) Q E ⟨hp, g, d, t, os⟩ := by
  repeat (first | with_reducible refine wpAny_loadPart_at hC ?_ | with_reducible refine wpAny_madeBy_exc hC ?_ | wp_step)
  refine codeAny_call_builtin_code (Code.quiet_builtin _ F.quiet) (checkNew F hT hC ?_)
  refine madeNew F hT hC hz ?_
  show wpAny _ _ _ _ _ _
  have kp : ∀ b o, hp.get? b = some o → ((hp.push (kdv_tup us)).push (excO C hp.objs.size)).get? b = some o := fun b o e => Heap.get?_push_of_some _ (Heap.get?_push_of_some _ e)
  have gC := kp _ _ hC
  have gx : ((hp.push (kdv_tup us)).push (excO C hp.objs.size)).get? (hp.objs.size + 1) = some (excO C hp.objs.size) := by heap_get
  have cC : (Value.ref C :: bm).contains (.ref C) = true := by simp
  have i1 := hi.keeps kp
  have b1 := (hb (.ref (hp.objs.size + 1))).keeps kp
  unfold isInstance
  repeat (first | with_reducible refine wpAny_loadPart_at gx ?_ | (with_reducible refine wpAny_isSubtype_exc gC ?_; rw [cC]) | wp_step)
  show wpAny _ _ (typeLookup (.ref C) _) _ _ _
  refine i1.at ?_
  refine wpAny_holding (wpAny_bind (b1.at ?_))
  refine wpAny_bind (wpAny_call (codeAny_mono hq fun r s' y => ?_))
  rcases r with e | (v | _ | _ | _) <;> first | exact y | exact y.elim | skip
  obtain ⟨rfl, y⟩ := y
  first
    | exact wpAny_pure (wpAny_pure y)
    | (wp_walk; exact y)
theorem callOwn (F : ExcBaseFacts B newId initId bmB) (hT : ∀ X : String, bm.contains (.type X) = bmB.contains (.type X)) {us : List Value} {kw : List (Str × Value)} {fI : Addr}
    (hC : hp.get? C = some (excClassObj nm q C N bs bm hdct sn sub ab col dd k0 k1 k2 k3 k5 newId)) (hz : us.length ≤ sizeLine)
    (hi : Looks (model prog w) hp (typeLookup (.ref C) "__init__") (some (.ref fI))) (hb : ∀ self, Looks (model prog w) hp (bindSpecial (.ref fI) self) (.ref fI, [self]))
    (hq : codeAny (model prog w) (A.under (.builtin "type.__call__" ⟨.ref C :: us, kw⟩)) (.call (.ref fI) ⟨.ref (hp.objs.size + 1) :: us, kw⟩) (InitBack (hp.objs.size + 1) R) ⟨(hp.push (kdv_tup us)).push (excO C hp.objs.size), g, d, t, os⟩) :
    codeAny (model prog w) A (.call (.ref C) ⟨us, kw⟩) R ⟨hp, g, d, t, os⟩ := by
  have f1 := tc_lookup
  have f2 := tc_bind (.ref C)
  have ty : (⟨hp, g, d, t, os⟩ : Shared).TypeIs (.ref C) "type" := ⟨_, hC, rfl⟩
  refine codeAny_of_tree ?_
  show wpAny _ _ (callAny (.ref C) _) _ _ _
  repeat (any_goals (first | assumption | with_reducible refine wpAny_loadPart_at hC ?_ | wp_step))
  refine ⟨rfl, ?_⟩
  refine codeAny_call_builtin_at (Code.quiet_builtin _ (by decide +kernel)) entry_typeCall (wpAny_check_type_call_sub hC (typeCall F hT hC hz hi hb ?_))
  refine codeAny_mono hq fun r s' y => ?_
  rcases r with e | (v | _ | _ | _) <;> exact y
end
end PX

set_option Elab.async false
set_option linter.all false
set_option maxRecDepth 100000
set_option maxHeartbeats 4000000
/-! PX2: the same over the layer: classes' facts, stores, Base.__init__, C(..) as a value, fields, isinstance. -/
namespace PD
open PySem PySem.Spec PyProof.Rows L2
/-- what a built-in base says -/
structure ExB (B newId initId : String) (bm : List Value) : Prop where
  f : ExcBaseFacts B newId initId bm
  s : StoreFacts B bm "object.__setattr__" "object"
abbrev tailOf (B : String) : List Value := [.type B, .type "Exception", .type "BaseException", .type "object"]
theorem exb_V : ExB "ValueError" "ValueError.__new__" "ValueError.__init__" (tailOf "ValueError") := ⟨F.excBase_ValueError, F.store_ValueError⟩
theorem exb_L : ExB "LookupError" "LookupError.__new__" "LookupError.__init__" (tailOf "LookupError") := ⟨F.excBase_LookupError, F.store_LookupError⟩
theorem exb_R : ExB "RuntimeError" "RuntimeError.__new__" "RuntimeError.__init__" (tailOf "RuntimeError") := ⟨F.excBase_RuntimeError, F.store_RuntimeError⟩
theorem exb_A : ExB "ArithmeticError" "ArithmeticError.__new__" "ArithmeticError.__init__" (tailOf "ArithmeticError") := ⟨F.excBase_ArithmeticError, F.store_ArithmeticError⟩
/-- what the written part says of an own class over such a base -/
structure OxB (K : PySem.W.Frag) (C : Addr) (newId : String) (bm : List Value) : Prop where
  ci : PySem.W.excInitIn K C bm newId = true
  ov : PySem.W.excOver K C bm = true
  sa : PySem.W.findIn K (.ref C) "__setattr__" = some (some (.builtin "object.__setattr__"))
  kC : PySem.W.keepIn K (.ref C) = true
  tyC : PySem.W.typeIn K (.ref C) = some (.type "type")
  ex : ExcC K C
def oxB (K : PySem.W.Frag) (newId : String) (bm : List Value) (C : Addr) : Bool :=
  PySem.W.excInitIn K C bm newId && PySem.W.excOver K C bm && decide (PySem.W.findIn K (.ref C) "__setattr__" = some (some (.builtin "object.__setattr__"))) && PySem.W.keepIn K (.ref C)
    && decide (PySem.W.typeIn K (.ref C) = some (.type "type")) && decide (PySem.W.findIn K (.ref C) "__getattribute__" = some (some (.builtin "BaseException.__getattribute__")))
    && decide (PySem.W.findIn K (.ref C) "__getattr__" = some none) && decide (PySem.W.subIn K (.ref C) (.type "BaseException") = some true) && PySem.W.hasDictIn K C
    && decide (PySem.W.findIn K (.ref C) "__class__" = some (some (.builtin "object.__class__"))) && decide (PySem.W.specialIn K (.builtin "object.__class__") "__get__" = some (some (.builtin "getset_descriptor.__get__")))
    && decide (PySem.W.takesIn K (.builtin "object.__class__") = some true) && decide (PySem.W.mroIn K C (.type "object") = some true)
theorem oxB_ok {K : PySem.W.Frag} {newId : String} {bm : List Value} {C : Addr} (h : oxB K newId bm C = true) : OxB K C newId bm := by
  unfold oxB at h
  simp only [Bool.and_eq_true, decide_eq_true_eq] at h
  obtain ⟨⟨⟨⟨⟨⟨⟨⟨⟨⟨⟨⟨h1, h2⟩, h3⟩, h4⟩, h5⟩, h6⟩, h7⟩, h8⟩, h9⟩, h10⟩, h11⟩, h12⟩, h13⟩ := h
  exact ⟨h1, h2, h3, h4, h5, ⟨h6, h7, h8, h9, h10, h11, h12, h13⟩⟩
section
variable {X : Cx} {pins : List (Addr × Obj)} {σ : L2.St} {H : Hp} {s : Shared} {a C dx : Addr} {f : Str} {y : V} {u : Value} {fs : List (Str × V)} {A : Around} {E : Value → Shared → Prop} {B newId initId : String} {bm : List Value}
/-- the heap behind the first store -/
theorem inv_store1 {hp h' : Heap} {g : Array GenState} {dr : Drawn} {tk tk' : Nat} {os : OsState} {t1 : Addr} (I : Inv X pins σ H ⟨hp, g, dr, tk, os⟩) (e : H a = some (exo a C none))
    (ry : RelV y u) (k : ∀ b o, b ≠ a → hp.get? b = some o → h'.get? b = some o) (dn : hp.objs.size ≤ dx) (dne : dx ≠ a)
    (hx : h'.get? a = some ({ cls := .ref C, dict := some dx, data := .fields #[.ref t1, .none, .none, .none, .bool false, .none] } : Obj)) (hn : h'.Ns1 dx (fun b => if b = f then some u else none)) :
    H dx = none ∧ Inv X pins σ (upd (upd H dx (exd dx [(f, y)])) a (exo a C (some dx))) ⟨h', g, dr, tk', os⟩ := by
  have nw : H dx = none := I.hok.fresh dn
  have old : ∀ {b : Addr} {o : Obj}, hp.get? b = some o → b ≠ dx := fun q => Nat.ne_of_lt (Nat.lt_of_lt_of_le (Heap.lt_size q) dn)
  have un : ∀ {b : Addr}, H b = none → b ≠ a := fun n z => by
    rw [z, e] at n
    cases n
  have two : ∀ {b : Addr} {o : HO}, H b = some o → exo a C none ≠ o → upd (upd H dx (exd dx [(f, y)])) a (exo a C (some dx)) b = H b := fun q z => by
    rw [upd_ne (at_ne e q z), upd_ne (ne_of_none q nw)]
  refine ⟨nw, I.un (t' := tk') ?_ ?_⟩
  · exact {
      keep := fun b o q n _ _ => k b o (un n) q
      slot := fun b o q n _ _ => ⟨o.slots, k b o (un n) q⟩
      free := fun b o q n _ => (upd_ne (un n)).trans ((upd_ne (old q)).trans n)
      there := fun b o q _ => by
        rcases Decidable.em (b = a) with hb | hb
        · rw [hb]; exact ⟨_, hx⟩
        · exact ⟨o, k b o hb q⟩
      tups := fun b xs q => (two q exo_tup).trans q
      frzs := fun b o v q => (two q exo_frz).trans q
      tbls := fun b ps q => ⟨#[], ((two q exo_tbl).trans q).trans (by simp)⟩ }
  · intro b o q
    rcases Decidable.em (b = a) with hb | hb
    · subst hb
      rw [upd_same] at q
      cases q
      exact exo_ok hx
    · rw [upd_ne hb] at q
      rcases Decidable.em (b = dx) with hd | hd
      · subst hd
        rw [upd_same] at q
        cases q
        exact exd_ok hn (relO_put (fs := []) ry fun _ => True.intro)
      · rw [upd_ne hd] at q
        refine (I.hok b o q).stay (fun c v hc z' => k c v ?_ z') (fun c hc => (two hc exo_own).trans hc) fun c xs hc => (two hc exo_tup).trans hc
        rcases hc with hc | hc
        · rw [hc]; exact hb
        · exact at_ne e hc exo_own
theorem set_first (SF : StoreFacts B bm "object.__setattr__" "object") (T : OxB X.K C newId bm) (I : Inv X pins σ H s) (e : H a = some (exo a C none)) (hno : PySem.W.findIn X.K (.ref C) f = some none) (ry : RelV y u) {Q : Unit → Shared → Prop}
    (h : ∀ dx s', H dx = none → dx ≠ a → Inv X pins σ (upd (upd H dx (exd dx [(f, y)])) a (exo a C (some dx))) s' → Q () s') : wpAny (model X.prog X.w) A (setAttr (.ref a) f u) Q E s := by
  obtain ⟨t1, ho⟩ := exo_at I.hok e
  obtain ⟨hp, g, dr, tk, os⟩ := s
  have ia : PySem.W.InstAt hp a (PySem.W.excObj C t1 none .none) C none := ⟨ho, rfl, rfl, trivial⟩
  refine PySem.W.set_plain (od := none) I.kIn ia T.sa ?_
  refine PySem.W.osa_openX (od := none) SF I.kIn ia T.ov (NoAttr.taker hno) fun b => ?_
  obtain ⟨cd, hc, hd⟩ := PySem.W.any_some T.ex.hd
  refine wpAny_bind (wpAny_pure (wpAny_bind (PySem.W.instanceDict_exc (t := t1) (c2 := .none) ho (PySem.W.looks_clsIn I.kIn hc) hd ?_)))
  have na : hp.objs.size ≠ a := Nat.ne_of_gt (Heap.lt_size ho)
  show wpAny _ _ (Builtin.ObjectAttr.storeInDict hp.objs.size _ f u) _ _ _
  have e1 : ((hp.push (PySem.W.dictOf [] 0)).update a fun o => { o with dict := some hp.objs.size }).get? a = some { PySem.W.excObj C t1 none .none with dict := some hp.objs.size } := Heap.get?_update_self _ (Heap.get?_push_of_some _ ho) rfl
  refine HandSPX.store_in_new ?_ fun h' tk' hn' hs => ?_
  · exact ⟨_, #[], _, (Heap.get?_update_ne _ _ _ _ na).trans (Heap.get?_push_at rfl rfl), rfl, fun e he => absurd he (by simp), fun _ => rfl⟩
  · obtain ⟨n, J⟩ := inv_store1 (tk' := tk') (t1 := t1) I e ry (fun b o hb q => (hs.2 b (Nat.ne_of_lt (Heap.lt_size q))).trans ((Heap.get?_update_ne _ _ _ _ hb).trans (Heap.get?_push_of_some _ q))) (Nat.le_refl _) na ((hs.2 a na.symm).trans e1) hn'
    exact h _ _ n na J
theorem set_later (SF : StoreFacts B bm "object.__setattr__" "object") (T : OxB X.K C newId bm) (I : Inv X pins σ H s) (e : H a = some (exo a C (some dx))) (ed : H dx = some (exd dx fs)) (hl : fs.length ≤ 900) (hno : PySem.W.findIn X.K (.ref C) f = some none) (ry : RelV y u) {Q : Unit → Shared → Prop}
    (h : ∀ s', Inv X pins σ (upd H dx (exd dx ((f, y) :: fs))) s' → Q () s') : wpAny (model X.prog X.w) A (setAttr (.ref a) f u) Q E s := by
  obtain ⟨t1, ho⟩ := exo_at I.hok e
  obtain ⟨mA, hns, rel⟩ := exd_at I.hok ed
  have hw := within_of rel
  obtain ⟨hp, g, dr, tk, os⟩ := s
  obtain ⟨oD, _, _, hoD, _, _⟩ := hns.count hw
  have ia : PySem.W.InstAt hp a (PySem.W.excObj C t1 (some dx) .none) C (some oD) := ⟨ho, rfl, rfl, hoD⟩
  refine PySem.W.set_plain (od := some oD) I.kIn ia T.sa ?_
  refine PySem.W.osa_openX (od := some oD) SF I.kIn ia T.ov (NoAttr.taker hno) fun b => ?_
  obtain ⟨cd, hc, hd⟩ := PySem.W.any_some T.ex.hd
  refine wpAny_bind (wpAny_pure (wpAny_bind (wpAny_bind (wpAny_loadPart ho (wpAny_bind ((PySem.W.looks_clsIn (M := model X.prog X.w) I.kIn hc).at ?_))))))
  rw [hd]
  refine wpAny_pure (a := some dx) ?_
  refine OEX.store_in_old hns hw (by rw [List.length_map]; omega) fun h' tk' hn hs => ?_
  have hd : ∃ o, h'.get? dx = some o := by
    obtain ⟨o, _, _, e', _⟩ := hn
    exact ⟨o, e'⟩
  exact h _ (I.write (t' := tk') (x := dx) (e := dx) (o := exd dx ((f, y) :: fs)) (by rw [ed]; exact True.intro) (.inl rfl) (fun b o hb q => (hs.2 b hb).trans q) hd (exd_ok hn (relO_put ry rel)))
/-- Base.__init__(self, ..): nothing of it is told -/
theorem base_init (FB : ExcBaseFacts B newId initId bm) (T : OxB X.K C newId bm) (I : Inv X pins σ H s) (e : H a = some (exo a C none)) {us : List Value} (hl : us.length ≤ sizeLine) {Q : Value → Shared → Prop} (h : ∀ s', Inv X pins σ H s' → Q .none s') :
    wpAny (model X.prog X.w) A (call (.builtin initId) (.ref a :: us)) Q E s := by
  obtain ⟨nm, N, qn, bs, bm', hdct, sn, sub, ab, col, dd, k0, k1, k2, k3, k5, hC, hT⟩ := PySem.W.excInit_of I.kIn T.ci
  obtain ⟨t1, ho⟩ := exo_at I.hok e
  obtain ⟨hp, g, dr, tk, os⟩ := s
  refine wpAny_call (HandSPX.init_base FB hT hC ho hl fun h' t2 k hx => ?_)
  have J := I.write (t' := tk) (x := a) (e := a) (o := exo a C none) (by rw [e]; exact True.intro) (.inl rfl) k ⟨_, hx⟩ (exo_ok hx)
  have same : upd H a (exo a C none) = H := funext fun b => by
    rcases Decidable.em (b = a) with hb | hb
    · rw [hb, upd_same, e]
    · exact upd_ne hb
  rw [same] at J
  exact h _ J
end
end PD

set_option Elab.async false
set_option linter.all false
set_option maxRecDepth 100000
set_option maxHeartbeats 4000000
/-! PX3: rules: Base.__init__(self, ..), self.f = e, C(..), e.f, isinstance(e, C). -/
namespace PD
open PySem PySem.Spec PyProof.Rows L2
section
open PySem.W PySem.Calls
variable {prog : Program} {w : World} {A : Around} {E : Value → Shared → Prop} {s : Shared} {K : Frag} {e D : Addr} {oe : Obj} {od : Option Obj}
/-- e.__class__ of an exception of an own class, with or without a dict of its own -/
theorem class_of_exc {Q : Option Value → Shared → Prop} (T : ExcC K D) (KX : K.In s.heap) (J : InstAt s.heap e oe D od) (h : Q (some (.ref D)) { s with toks := s.toks + 1 }) : wpAny (model prog w) A (getAttr? (.ref e) "__class__") Q E s := by
  obtain ⟨cd, hcd, _⟩ := any_some T.hd
  have fnd : findObj K D od "__class__" = some (.bind (.builtin "getset_descriptor.__get__") (.builtin "object.__class__")) := by
    unfold findObj
    rw [hcd, Option.bind_some, T.ha, Option.bind_some]
    simp [T.hn, T.ht]
  obtain ⟨hp, gs, dr, tk, os⟩ := s
  have l0 := J.type (M := model prog w)
  have l1 := looks_findIn (M := model prog w) KX T.hg
  have l2 := looks_findIn (M := model prog w) KX T.hk
  have l3 := looks_find (M := model prog w) KX J fnd
  have isB : Looks (model prog w) hp (isInstance (.ref e) (.type "BaseException")) true := l0.andThen (looks_subIn KX T.hs)
  have z2 : (Value.builtin "BaseException.__getattribute__" == Value.builtin "object.__getattribute__") = false := by decide +kernel
  have z1 : (onTheHeap (Value.ref D) && Value.builtin "BaseException.__getattribute__" == Value.builtin "object.__getattribute__") = false := by rw [z2]; rfl
  have z0 : (false && onTheHeap (Value.builtin "BaseException.__getattribute__")) = false := rfl
  unfold getAttr? getAttrBy? getAttrBy
  refine wpAny_bind (wpAny_mkText (wpAny_bind (wpAny_attempt (wpAny_holding (wpAny_bind (l0.at (wpAny_bind (l1.at ?_))))))))
  show wpAny _ _ (if (onTheHeap (Value.ref D) && Value.builtin "BaseException.__getattribute__" == Value.builtin "object.__getattribute__") = true then _ else _) _ _ _
  rw [z1, if_neg Bool.false_ne_true]
  unfold getAttrByItsOwn hookBefore
  refine wpAny_bind ?_
  rw [if_pos (show onTheHeap (Value.ref D) = true from rfl)]
  refine l2.at (wpAny_bind (wpAny_attempt (wpAny_holding ?_)))
  unfold callGetattribute
  rw [z0, if_neg Bool.false_ne_true]
  unfold boundAndCalled
  rw [PySem.F.excAttr_ValueError.ga.bind (.ref e)]
  refine wpAny_bind (wpAny_pure ?_)
  show wpAny _ _ (call (.builtin "BaseException.__getattribute__") [.ref e, .str "__class__" tk]) _ _ _
  refine wpAny_call (codeAny_call_builtin PySem.F.excAttr_ValueError.ga.plain PySem.F.entry_bexc_ga ?_)
  refine @check_slot (model prog w) _ _ ⟨hp, gs, dr, tk + 1, os⟩ "BaseException.__getattribute__" "BaseException" "__getattribute__" (.ref e) [.str "__class__" tk] [] _ (by decide +kernel) (by decide +kernel) isB (PySem.F.args_bexc_ga (.ref e) (.str "__class__" tk)) ?_
  unfold Builtin.«object.__getattribute__»
  refine wpAny_bind (wpAny_of_eq (a := ((Value.ref e : Value), [Value.str "__class__" tk])) (by first | rfl | (simp only [slotArgs]; rfl)) ?_)
  refine wpAny_bind (wpAny_pure (wpAny_bind (l0.at (wpAny_bind (l3.at ?_)))))
  show wpAny _ _ (holding [Value.builtin "object.__class__"] (call (.builtin "getset_descriptor.__get__") [.builtin "object.__class__", .ref e, .ref D]) >>= ret) _ _ _
  refine wpAny_bind (wpAny_holding (wpAny_call (class_get (s := ⟨hp, gs, dr, tk + 1, os⟩) (ox := oe) (od := od) KX J T.hm ?_)))
  refine wpAny_pure ?_
  show wpAny _ _ (handedOut (.ref D)) _ _ _
  rw [handedOut_of (v := .ref D) rfl]
  first
    | exact wpAny_pure (wpAny_pure h)
    | exact wpAny_pure h
    | exact wpAny_pure (wpAny_bind (wpAny_pure (wpAny_pure h)))
theorem kit_exc (T : ExcC K D) : KitX K (.ref e) (.ref D) (fun h => InstAt h e oe D od) := by
  obtain ⟨cd, hcd, _⟩ := any_some T.hd
  have hD : ∃ ob c, K.lookup D = some ob ∧ ob.data = .cls c := by
    unfold clsIn at hcd
    split at hcd
    · rename_i ho
      exact ⟨_, _, ho, rfl⟩
    · cases hcd
  obtain ⟨⟨ocl, odi, oda, osl⟩, c, ho, hc⟩ := hD
  dsimp only at hc
  subst hc
  exact {
    ty := fun _ _ _ J => J.type
    it := fun _ _ KX _ => fun A' Q' E' s' k q => by
      unfold isType loadHead
      exact wpAny_bind (wpAny_loadPart (k _ _ (KX _ _ ho)) (wpAny_pure q))
    ne := fun h tp dd its n sl KX htp => by
      refine Bool.eq_false_iff.mpr fun q => ?_
      obtain rfl : D = tp := Value.ref.inj (beq_iff_eq.mp q)
      have y := (KX _ _ ho).symm.trans htp
      cases y
    ca := fun KX J k => class_of_exc T KX J k }
end
/-- W.__init__(self, ..), W an own class that has it of its built-in base -/
def tBin (K : PySem.W.Frag) (newId : String) (bm : List Value) (ta : TA) : TE := fun σ H Q => ta σ H fun vs H1 => ∃ (a C : Addr) (ws : List V), vs = .ref a :: ws ∧ ws.length ≤ 1000 ∧ OxB K C newId bm ∧ H1 a = some (exo a C none) ∧ Q .non H1
/-- self.f = e -/
def tOset (K : PySem.W.Frag) (newId : String) (bm : List Value) (f : Str) (to te : TE) : TS := fun D σ H => te σ H fun y H1 => to σ H1 fun x H2 => ∃ a C : Addr, x = .ref a ∧ OxB K C newId bm ∧ PySem.W.findIn K (.ref C) f = some none ∧
  ((H2 a = some (exo a C none) ∧ ∀ dx, H2 dx = none → dx ≠ a → D.nx σ (upd (upd H2 dx (exd dx [(f, y)])) a (exo a C (some dx)))) ∨
    ∃ (dx : Addr) (fs : List (Str × V)), H2 a = some (exo a C (some dx)) ∧ H2 dx = some (exd dx fs) ∧ fs.length ≤ 900 ∧ D.nx σ (upd H2 dx (exd dx ((f, y) :: fs))))
/-- C(..), its own __init__ keeping sp, as a value -/
def tMkV (C : Addr) (sp : Sp) (g : List V → List V → List V) (ta tk : TA) : TE := fun σ H Q => ta σ H fun vs H1 => tk σ H1 fun zs H2 => vs.length ≤ 1000 ∧ ∀ a, H2 a = none → sp (g (.ref a :: vs) zs) (upd H2 a (exo a C none)) (fun v H3 => v = .non ∧ Q (.ref a) H3) fun _ _ _ => False
/-- e.f of such an exception -/
def tXfl (K : PySem.W.Frag) (newId : String) (bm : List Value) (f : Str) (te : TE) : TE := fun σ H Q => te σ H fun x H1 => ∃ (a C dd : Addr) (fs : List (Str × V)) (v : V), x = .ref a ∧ (∃ newId bm, OxB K C newId bm) ∧ PySem.W.findIn K (.ref C) f = some none ∧ H1 a = some (exo a C (some dd)) ∧ H1 dd = some (exd dd fs) ∧ fs.lookup f = some v ∧ Q v H1
/-- isinstance(e, c), e such an exception -/
def rIsX (K : PySem.W.Frag) : List V → Hp → VK → Prop := fun xs H Q => ∃ (a C : Addr) (dd : Option Addr) (c : V) (cv : Value) (b : Bool), xs = [.ref a, c] ∧ ExcC K C ∧ H a = some (exo a C dd) ∧ (∀ d, dd = some d → ∃ fs, H d = some (exd d fs)) ∧ (∀ u, RelV c u → u = cv) ∧ PySem.W.kitOne K (.ref C) cv = some b ∧ Q (.bl b) H
section
variable {X : Cx} {o e : Expr} {es : List Expr} {to te : TE} {ta tk : TA} {f x : Str} {p p' p1 p2 pos : Pos} {B newId initId : String} {bm : List Value} {W C : Addr}
theorem pe_bin {pl : Sem Bool} {mc : Value} (FB : ExB B newId initId bm) (hg : Gl X x) (hm : X.mg x = some (.ref W)) (rd : PySem.W.readsIn X.K W mc = true) (ga : PySem.W.specialIn X.K (.ref W) "__getattribute__" = some (some (.builtin "type.__getattribute__")))
    (at_ : PySem.W.findCls X.K (.ref W) mc "__init__" = some (.val (.builtin initId))) (ha : PA X (e :: es) ta) (hh : PySem.W.handedIn (.builtin initId) = true := by rfl) (hdb : (x == ("__debug__" : Str)) = false := by decide)
    (hc : eval (.Call (.Attribute (.Name x p1) "__init__" p2) (e :: es) [] pos) X.env = (do
      let ov ← eval (.Name x p1) X.env
      standAt p2.atName
      let (f, first) ← holding [ov] (getMethod ov "__init__" pl)
      callWith pos f first (backTo pos (starEach (e :: es) X.env)) (backToKw pos (keywordEach [] X.env))) := by rfl)
    (he : starEach (e :: es) X.env = (false, eval e X.env) :: starEach es X.env := by rfl) (hpl : (backTo pos (starEach es X.env)).any (·.1) = false := by rfl) :
    PE X (.Call (.Attribute (.Name x p1) "__init__" p2) (e :: es) [] pos) (tBin X.K newId bm ta) := by
  refine ⟨fun pins s σ H Q I h => ?_⟩
  refine PySem.W.methodCall_KW (ld_glob I hg hm ?_ hdb) hc
  refine PySem.W.method_cls (I.tok _).kIn ga (PySem.W.cls_value (I.tok _).kIn rd at_ hh ?_)
  show wpAny _ _ (callWith pos (Value.builtin initId) [] (backTo pos (starEach (e :: es) X.env)) []) _ _ _
  refine PyProof.Rows.callWith_method1 (thn (ha.run pos pins _ σ H _ (I.tok _) h) fun us s1 ⟨vs, H1, I1, r1, a, C, ws, ev, hl, T, ea, q⟩ => ?_) he hpl
  subst ev
  cases r1 with
  | @cons _ u0 _ ur ra rw' =>
    obtain rfl : u0 = Value.ref a := ra
    have hlen : ur.length ≤ sizeLine := by
      rw [← Paired.length rw', sizeLine_eq]
      omega
    exact base_init FB.f T I1 ea hlen fun s' J => ⟨.non, H1, J, rfl, q⟩
theorem ps_oset (FB : ExB B newId initId bm) (ho : PE X o to) (he : PE X e te) (hs : swapsWith e (some (.Attribute o f p')) pos.line X.env = pure false := by rfl) : PS X (.Assign [.Attribute o f p'] e pos) (tOset X.K newId bm f to te) := by
  refine ⟨fun pins s σ H D I h => ?_⟩
  refine plainObj_wpAny_Assign_Attribute (thn (he.run pins s σ H _ I h) fun v s1 ⟨y, H1, I1, r1, q1⟩ => thn (ho.run pins s1 σ H1 _ I1 q1) fun u s2 ⟨x, H2, I2, r2, a, C, ex, T, hno, q⟩ => ?_) hs
  subst ex
  obtain rfl : u = Value.ref a := r2
  rcases q with ⟨ea, q⟩ | ⟨dx, fs, ea, ed, hl, q⟩
  · exact set_first FB.s T I2 ea hno r1 fun dx s' n ne J => ⟨σ, _, J, q dx n ne⟩
  · exact set_later FB.s T I2 ea ed hl hno r1 fun s' J => ⟨σ, _, J, q⟩
/-- C called with us and keywords -/
theorem run_mkv {CX : CXT} {fI : Addr} {k : Nat} {fd : FuncData} {ps ks : List Str} {sp : Sp} {g : List Value → List Value → List Value} {gV : List V → List V → List V} {pins : List (Addr × Obj)} {σ : L2.St} {H : Hp} {s : Shared} {Q : VK} {us ws : List Value} {vs zs : List V}
    (FB : ExB B newId initId bm) (T : OxB X.K C newId bm) (iC : PySem.W.findIn X.K (.ref C) "__init__" = some (some (.ref fI))) (tI : PySem.W.typeIn X.K (.ref fI) = some (.type "function"))
    (F1 : FnOk X.prog X.w X.K X.mg X.base CX k fI fd ps sp) (hr : Room (k + 1) X.A) (hb : KBinds X.K fd ps ks g gV) (hx : Passes CX X (fun _ _ _ => False)) (I : Inv X pins σ H s) (r : Vals vs us) (rz : Vals zs ws) (hl : vs.length ≤ 1000)
    (h : ∀ a, H a = none → sp (gV (.ref a :: vs) zs) (upd H a (exo a C none)) (fun v H3 => v = .non ∧ Q (.ref a) H3) fun _ _ _ => False) :
    wpAny (model X.prog X.w) X.A (call (.ref C) us (ks.zip ws)) (EP X pins σ Q) X.xe s := by
  obtain ⟨nm, N, qn, bs, bm', hdct, sn, sub, ab, col, dd, k0, k1, k2, k3, k5, hC, hT⟩ := PySem.W.excInit_of I.kIn T.ci
  obtain ⟨hp, g', dr, tk, os⟩ := s
  have hs1 : hp.objs.size ≤ hp.objs.size + 1 := Nat.le_succ _
  have hn : H (hp.objs.size + 1) = none := I.hok.fresh hs1
  have hq := h (hp.objs.size + 1) hn
  have kk : ∀ b o, hp.get? b = some o → ((hp.push (PySem.W.kdv_tup us)).push (PySem.PX.excO C hp.objs.size)).get? b = some o := fun b o e => Heap.get?_push_of_some _ (Heap.get?_push_of_some _ e)
  have hget : ((hp.push (PySem.W.kdv_tup us)).push (PySem.PX.excO C hp.objs.size)).get? (hp.objs.size + 1) = some (PySem.PX.excO C hp.objs.size) := by heap_get
  have I2 : Inv X pins σ (upd H (hp.objs.size + 1) (exo (hp.objs.size + 1) C none)) ⟨(hp.push (PySem.W.kdv_tup us)).push (PySem.PX.excO C hp.objs.size), g', dr, tk, os⟩ :=
    I.laid (t' := tk) (a := hp.objs.size + 1) (o := exo (hp.objs.size + 1) C none) (h' := (hp.push (PySem.W.kdv_tup us)).push (PySem.PX.excO C hp.objs.size)) kk hs1 (exo_ok hget)
  have r1 : Vals (V.ref (hp.objs.size + 1) :: vs) (Value.ref (hp.objs.size + 1) :: us) := .cons rfl r
  have r2 := hb.rel r1 rz
  have hlen : (g (Value.ref (hp.objs.size + 1) :: us) ws).length = ps.length := by rw [← r2.length]; exact F1.len _ _ _ _ hq
  have hus : us.length ≤ sizeLine := by
    rw [← Paired.length r, sizeLine_eq]
    omega
  refine wpAny_call (PX.callOwn FB.f hT hC hus (PySem.W.looks_findIn I.kIn iC) (fun self => PySem.W.bind_fn I.kIn self tI)
    (codeAny_mono (F1.run _ X.stack _ _ ⟨Value.ref (hp.objs.size + 1) :: us, ks.zip ws⟩ _ _ _ (fun _ _ _ => False) (hr.make C us (ks.zip ws)) (I2.env0.make C us (ks.zip ws)) (hb.to _ (Value.ref (hp.objs.size + 1) :: us) ws I2.kIn hlen) r2 hq) fun r s' hq' => ?_))
  cases r with
  | error er => exact hx pins σ _ _ er s' I2 hq'
  | ok fl =>
    cases fl with
    | ret u =>
      obtain ⟨v, H2, J, rv, ev, q2⟩ := I2.after hq'
      subst ev
      exact ⟨rv, V.ref (hp.objs.size + 1), H2, J, rfl, q2⟩
    | next => exact False.elim hq'
    | brk => exact False.elim hq'
    | cont => exact False.elim hq'
theorem binds_kb {K : PySem.W.Frag} {fd : FuncData} {ps : List Str} (hb : Binds K fd ps []) : KBinds K fd ps [] (fun us _ => us) (fun vs _ => vs) :=
  ⟨fun s us ws X hl => by have := hb s us X (by simpa using hl); simpa using this, fun r _ => r⟩
section
variable {CX : CXT} {fI : Addr} {k : Nat} {fd : FuncData} {ps ks : List Str} {sp : Sp} {g : List Value → List Value → List Value} {gV : List V → List V → List V} {kws : List Keyword} {nm0 : Option Str} {kpos : Pos}
theorem pe_mkE (FB : ExB B newId initId bm) (T : OxB X.K C newId bm) (iC : PySem.W.findIn X.K (.ref C) "__init__" = some (some (.ref fI))) (tI : PySem.W.typeIn X.K (.ref fI) = some (.type "function"))
    (F1 : FnOk X.prog X.w X.K X.mg X.base CX k fI fd ps sp) (hr : Room (k + 1) X.A) (hb : Binds X.K fd ps []) (hx : Passes CX X (fun _ _ _ => False)) (hg : Gl X x) (hm : X.mg x = some (.ref C)) (ha : PA X (e :: es) ta)
    (hdb : (x == ("__debug__" : Str)) = false := by decide) (he : starEach (e :: es) X.env = (false, eval e X.env) :: starEach es X.env := by rfl) (hpl : (backTo pos (starEach es X.env)).any (·.1) = false := by rfl) :
    PE X (.Call (.Name x p) (e :: es) [] pos) (tMkV C sp (fun vs _ => vs) ta tNil) := by
  refine ⟨fun pins s σ H Q I h => ?_⟩
  refine wpAny_Call_Name_kw (ld_glob I hg hm ?_ hdb)
  refine PySem.W.callWith_K (h₀ := X.base) I.ok.mod.kin T.kC (thn (ha.run pos pins s σ H _ I h) fun us s1 ⟨vs, H1, I1, r1, hz, q1⟩ => ⟨I1.kIn, ?_⟩) he hpl
  exact run_mkv (ks := []) (ws := []) (zs := []) FB T iC tI F1 hr (binds_kb hb) hx I1 r1 .nil hz q1
theorem pe_mkE0 (FB : ExB B newId initId bm) (T : OxB X.K C newId bm) (iC : PySem.W.findIn X.K (.ref C) "__init__" = some (some (.ref fI))) (tI : PySem.W.typeIn X.K (.ref fI) = some (.type "function"))
    (F1 : FnOk X.prog X.w X.K X.mg X.base CX k fI fd ps sp) (hr : Room (k + 1) X.A) (hb : Binds X.K fd ps []) (hx : Passes CX X (fun _ _ _ => False)) (hg : Gl X x) (hm : X.mg x = some (.ref C))
    (hdb : (x == ("__debug__" : Str)) = false := by decide) :
    PE X (.Call (.Name x p) [] [] pos) (tMkV C sp (fun vs _ => vs) tNil tNil) := by
  refine ⟨fun pins s σ H Q I h => ?_⟩
  refine wpAny_Call_Name_kw (ld_glob I hg hm ?_ hdb)
  exact PySem.W.callWith_K0 I.kIn T.kC (run_mkv (us := []) (vs := []) (ks := []) (ws := []) (zs := []) FB T iC tI F1 hr (binds_kb hb) hx I .nil .nil h.1 h.2)
theorem pe_mkEK (FB : ExB B newId initId bm) (T : OxB X.K C newId bm) (iC : PySem.W.findIn X.K (.ref C) "__init__" = some (some (.ref fI))) (tI : PySem.W.typeIn X.K (.ref fI) = some (.type "function"))
    (F1 : FnOk X.prog X.w X.K X.mg X.base CX k fI fd ps sp) (hr : Room (k + 1) X.A) (hb : KBinds X.K fd ps ks g gV) (hx : Passes CX X (fun _ _ _ => False)) (hg : Gl X x) (hm : X.mg x = some (.ref C)) (hkw : PK X kws tk)
    (hall : (backToKw pos (keywordEach kws X.env)).all (·.1.isSome) = true := by rfl) (hks : (backToKw pos (keywordEach kws X.env)).filterMap (·.1) = ks := by rfl)
    (hdb : (x == ("__debug__" : Str)) = false := by decide) (hpl : ((backTo pos (starEach [] X.env)).any (·.1) || (backToKw pos (keywordEach kws X.env)).any (·.1.isNone)) = false := by rfl) :
    PE X (.Call (.Name x p) [] kws pos) (tMkV C sp gV tNil tk) := by
  refine ⟨fun pins s σ H Q I h => ?_⟩
  refine wpAny_Call_Name_kw (ld_glob I hg hm ?_ hdb)
  refine PySem.W.callWith_KW0 (h₀ := X.base) I.ok.mod.kin T.kC hall (thn (hkw.run pos pins s σ H _ I h) fun ws s2 ⟨zs, H2, I2, rz, hz, q2⟩ => ⟨I2.kIn, ?_⟩) hpl
  rw [hks]
  exact run_mkv (us := []) (vs := []) FB T iC tI F1 hr hb hx I2 .nil rz hz q2
end
theorem pe_xfl (he : PE X e te) (hb : attributeBase e f X.env (eval e X.env) = eval e X.env := by rfl) : PE X (.Attribute e f pos) (tXfl X.K newId bm f te) := by
  refine ⟨fun pins s σ H Q I h => ?_⟩
  refine attr_of hb (thn (he.run pins s σ H _ I h) fun u s1 ⟨x, H1, I1, rx, a, C, dd, fs, v, ex, ⟨_, _, T⟩, hno, ea, ed, l, q⟩ => ?_)
  subst ex
  obtain rfl : u = Value.ref a := rx
  obtain ⟨t1, ho⟩ := exo_at I1.hok ea
  obtain ⟨mA, hns, hr⟩ := exd_at I1.hok ed
  obtain ⟨od, hod, hl⟩ := lookIn_ns hns
  obtain ⟨u, hu, ru⟩ := RelO.some_of (v := v) (o := mA f) (by rw [← l]; exact hr f)
  have J : PySem.W.InstAt s1.heap a (PySem.W.excObj C t1 (some dd) .none) C (some od) := ⟨ho, rfl, rfl, hod⟩
  exact HandSPX.exc_get I1.kIn J T.ex.hg T.ex.hk T.ex.hs (PySem.W.findObj_own T.ex.hd hno rfl (by rw [hl, hu])) (handed_of ru) ⟨v, H1, I1.tok _, ru, q⟩
theorem call_isX : CallR X (.builtin "isinstance") (rIsX X.K) := by
  intro pins s σ H xs us Q I r h
  obtain ⟨a, C, dd, c, cv, b, rfl, T, ea, hdd, hcv, e, q⟩ := h
  cases r with
  | cons rx rr =>
    cases rr with
    | cons rt rr =>
      cases rr
      cases rx
      have ec := hcv _ rt
      subst ec
      obtain ⟨t1, ho⟩ := exo_at I.hok ea
      cases dd with
      | none =>
        have J : PySem.W.InstAt s.heap a (PySem.W.excObj C t1 none .none) C none := ⟨ho, rfl, rfl, trivial⟩
        exact PySem.W.kia_one (kit_exc T) I.kIn J e (fun z => nomatch z) fun tk => ⟨.bl b, H, I.kept (t' := tk) fun _ _ z => z, rfl, q⟩
      | some d =>
        obtain ⟨fs, ed⟩ := hdd d rfl
        obtain ⟨mA, hns, hr⟩ := exd_at I.hok ed
        obtain ⟨od, hod, hl⟩ := lookIn_ns hns
        have J : PySem.W.InstAt s.heap a (PySem.W.excObj C t1 (some d) .none) C (some od) := ⟨ho, rfl, rfl, hod⟩
        exact PySem.W.kia_one (kit_exc T) I.kIn J e (fun z => nomatch z) fun tk => ⟨.bl b, H, I.kept (t' := tk) fun _ _ z => z, rfl, q⟩
end
end PD

set_option Elab.async false
set_option linter.all false
set_option maxRecDepth 100000
set_option maxHeartbeats 4000000
/-! PD4: defs that may show data (no repr is under way around them); the law's call; repr of data. -/
namespace PD
open PySem PySem.Spec PyProof.Rows L2

/-- as FnOk, called where no repr is under way -/
structure FnG (P : Program) (w : World) (K : PySem.W.Frag) (mg : Str → Option Value) (base : Heap) (CX : CXT) (k : Nat) (f : Addr) (fd : FuncData) (ps : List Str) (sp : Sp) : Prop where
  len : ∀ vs H Q E, sp vs H Q E → vs.length = ps.length
  run : ∀ (A : Around) (outer : List Env) (s : Shared) (H : Hp) (args : Args) (us : List Value) (vs : List V) (Q : VK) (E : XK), A.guards = some [] → Room k A → Env0 P w K mg base A outer s H → BindsTo s fd args (ps.zip us) → Vals vs us → sp vs H Q E →
    codeAny (model P w) A (.call (.ref f) args) (CR CX outer P w H s Q E) s
theorem FnG.of {P : Program} {w : World} {K : PySem.W.Frag} {mg : Str → Option Value} {base : Heap} {CX : CXT} {k : Nat} {f : Addr} {fd : FuncData} {ps : List Str} {sp : Sp} (F : FnOk P w K mg base CX k f fd ps sp) : FnG P w K mg base CX k f fd ps sp :=
  ⟨F.len, fun A outer s H args us vs Q E _ => F.run A outer s H args us vs Q E⟩
section
variable {P : Program} {w : World} {K : PySem.W.Frag} {mg : Str → Option Value} {base : Heap} {CX : CXT} {k : Nat} {f : Addr}
/-- a def by its body -/
theorem fnG_of {name qual : Str} {params : Arguments} {body : List Stmt} {scope : Scope} {dV kV doc pm cdv ct oc : Value} {an od : Option Addr} {osl : Array (Option Value)} {N ps : List Str} {sp : Sp}
    (lk : K.lookup f = some ⟨oc, od, .func (PySem.W.fnOf name qual params body scope dV kV doc pm an cdv ct), osl⟩) (hcd : PySem.W.codeIn K cdv qual = true) (S : FnScope N ps scope) (len : ∀ vs H Q E, sp vs H Q E → vs.length = ps.length)
    (hbody : ∀ (A : Around) (outer : List Env) (s : Shared) (H : Hp) (vs : List V) (Q : VK) (E : XK), A.guards = some [] → Room k (A.deeper (envOfC qual scope s.heap.objs.size f cdv)) → sp vs H Q E →
      ∃ t, PSs (cxOf CX P w K mg base N qual scope f cdv A outer s H E) body t ∧ t { nx := fun _ H' => Q .non H', rt := Q } (L2.start N vs) H) :
    FnG P w K mg base CX (k + 1) f (PySem.W.fnOf name qual params body scope dV kV doc pm an cdv ct) ps sp := by
  refine ⟨len, fun A outer s H args us vs Q E hg hr e0 hb r hsp => ?_⟩
  have KX : K.In s.heap := e0.mod.kin.keeps fun b o e => (e0.bs b o e).1
  have lim : s.heap.NoLimit := e0.mod.nolimit.keeps fun b o e => (e0.bs b o e).1
  refine codeAny_call_function hr.depth (KX _ _ lk) rfl S.co S.gen rfl (PySem.W.codeRec_of KX hcd) (hb _ _ _ _ ?_)
  refine wpAny_newFunctionEnv_cells S.kind (fun ⟨n, v⟩ hy => ?_) fun env he s1 x => ?_
  · rcases S.par n (List.of_mem_zip hy).1 with q | q
    · exact .inl q
    · exact .inr ⟨q, PySem.W.cellsFrom_some _ _ _ (.inl q)⟩
  subst he
  refine ⟨lim.keeps x.toInCall.keep, codeAny_func ?_⟩
  obtain ⟨t, ht, hq⟩ := hbody A outer s H vs Q E hg (hr.deeper _) hsp
  have I := inv_start (CX := CX) (E := E) S hr.hd e0 (len _ _ _ _ hsp) r x
  refine wpAny_mono (ht.run [] s1 (L2.start N vs) H _ I hq) (fun fl s' hs => ?_) fun e s' hs => hs
  cases fl with
  | ret u =>
    obtain ⟨v, σ', H', J, rv, q⟩ := hs
    exact ⟨v, H', J.os, J.bare, J.base, J.hok, rv, q⟩
  | next =>
    obtain ⟨σ', H', J, q⟩ := hs
    exact ⟨V.non, H', J.os, J.bare, J.base, J.hok, rfl, q⟩
  | brk => obtain ⟨_, _, _, q⟩ := hs; exact q.elim
  | cont => obtain ⟨_, _, _, q⟩ := hs; exact q.elim
theorem okG {x qual : Str} {st : Stmt} {fd : FuncData} {N ps : List Str} {sp : Sp} (F : Fun K x qual st f fd) (S : FnScope N ps (defScope st)) (len : ∀ vs H Q E, sp vs H Q E → vs.length = ps.length)
    (hbody : ∀ (cdv : Value) (A : Around) (outer : List Env) (s : Shared) (H : Hp) (vs : List V) (Q : VK) (E : XK), A.guards = some [] → Room k (A.deeper (envOfC qual (defScope st) s.heap.objs.size f cdv)) → sp vs H Q E →
      ∃ t, PSs (cxOf CX0 P w K mg base N qual (defScope st) f cdv A outer s H E).nox (defBody st) t ∧ t { nx := fun _ H' => Q .non H', rt := Q } (L2.start N vs) H) : FnG P w K mg base CX0 (k + 1) f fd ps sp := by
  obtain ⟨oc, od, kV, doc, pm, an, cdv, ct, osl, rfl, lk, hcd⟩ := F.ex
  refine fnG_of lk hcd S len fun A outer s H vs Q E hg hr hsp => ?_
  obtain ⟨t, h, q⟩ := hbody cdv A outer s H vs Q E hg hr hsp
  exact ⟨t, h.nox, q⟩
end
section
variable {X : Cx} {CX : CXT} {k : Nat} {f C : Addr} {fd : FuncData} {ps : List Str} {sp : Sp} {dvs : List V} {ds : List Value} {E : XK} {x m : Str} {p pos apos : Pos} {e o : Expr} {es : List Expr} {ta : TE} {t : TA}
theorem pe_callG (F : FnG X.prog X.w X.K X.mg X.base CX k f fd ps sp) (hgd : X.A.guards = some []) (hr : Room k X.A) (hg : Gl X x) (hm : X.mg x = some (.ref f)) (hk : PySem.W.keepIn X.K (.ref f) = true) (hb : Binds X.K fd ps ds) (hd : Vals dvs ds) (hx : Passes CX X E)
    (ha : PA X (e :: es) t) (hdb : (x == ("__debug__" : Str)) = false := by decide) (he : starEach (e :: es) X.env = (false, eval e X.env) :: starEach es X.env := by rfl) (hpl : (backTo pos (starEach es X.env)).any (·.1) = false := by rfl) :
    PE X (.Call (.Name x p) (e :: es) [] pos) (tCall sp dvs E t) := by
  refine ⟨fun pins s σ H Q I h => ?_⟩
  refine wpAny_Call_Name_kw (ld_glob I hg hm ?_ hdb)
  refine PySem.W.callWith_K (h₀ := X.base) I.ok.mod.kin hk (thn (ha.run pos pins s σ H _ I h) fun us s1 ⟨vs, H1, I1, r, q⟩ => ⟨I1.kIn, ?_⟩) he hpl
  have r2 : Vals (vs ++ dvs) (us ++ ds) := r.append hd
  have hl : (us ++ ds).length = ps.length := by rw [← r2.length]; exact F.len _ _ _ _ q
  refine wpAny_call (codeAny_mono (F.run X.A X.stack s1 H1 ⟨us, []⟩ (us ++ ds) (vs ++ dvs) Q E hgd hr I1.env0 (hb s1 us I1.kIn hl) r2 q) fun r s' hq => ?_)
  cases r with
  | error e => exact hx pins σ H1 s1 e s' I1 hq
  | ok fl =>
    cases fl with
    | ret u => exact I1.after hq
    | next => exact hq.elim
    | brk => exact hq.elim
    | cont => exact hq.elim
end

/-! ### the law's call -/
theorem lawG {P : Program} {w : World} {K : PySem.W.Frag} {mg mb : Str → Option Value} {k : Nat} {fa a : Addr} {fd : FuncData} {x : Str} {sp : Sp} {s₁ : Shared} {vs : List Value} {ns : List Int}
    (KX : K.In s₁.heap) (hns : s₁.heap.Ns mainGlobals mg) (hb : s₁.heap.Ns builtinsNs mb) (hbb : ∀ x : Str, x ≠ "__name__" → mb x = bootBuiltins x) (hlim : s₁.heap.NoLimit) (hg : s₁.gens = #[])
    (ha : s₁.heap.get? a = some { cls := .type "list", data := .seq vs.toArray }) (hi : IntsAre vs ns) (hl : ns.length ≤ sizeLine) (hr : Room k callerA)
    (F : ∀ base : Heap, K.In base → base.Ns mainGlobals mg → FnG P w K mg base CX0 k fa fd [x] sp) (hbind : ∀ (s : Shared) (u : Value), BindsTo s fd ⟨[u], []⟩ [(x, u)])
    (hsp : ∀ H : Hp, Only H → SqL K H a (ns.map V.int) → sp [.ref a] H (fun v _ => v = .bl true) fun _ _ _ => False) :
    codeAny (model P w) callerA (.call (.ref fa) ⟨[.ref a], []⟩) (fun r s' => r = .ok (.ret (.bool true)) ∧ OldK s₁.heap s'.heap ∧ s'.os = s₁.os ∧ AllBare s'.gens) s₁ := by
  have rv := vals_ints hi
  -- the script, tracked as frozen unless it is the module's own
  let fz : HO := .frz { cls := .type "list", data := .seq vs.toArray } (.lst (ns.map V.int))
  let H : Hp := fun b => if b = a ∧ K.lookup a = none then some fz else none
  have hH : ∀ b u, H b = some u → b = a ∧ K.lookup a = none ∧ u = fz := fun b u q => by
    have q : (if b = a ∧ K.lookup a = none then some fz else none) = some u := q
    split at q
    · rename_i c
      exact ⟨c.1, c.2, (Option.some.inj q).symm⟩
    · cases q
  have only : Only H := fun b => by
    cases q : H b with
    | none => exact .inl rfl
    | some u => exact .inr ⟨_, _, by rw [(hH b u q).2.2]⟩
  have hS : SqL K H a (ns.map V.int) := by
    cases q : K.lookup a with
    | none => exact .inl (.inr ⟨_, if_pos ⟨rfl, q⟩⟩)
    | some o =>
      have e := KX a o q
      rw [ha] at e
      cases e
      exact .inr ⟨_, vs.toArray, _, q, rfl, rfl, rfl, by rw [List.size_toArray, hi.length]; exact hl, by simpa using rv⟩
  have hok : HOk P w H s₁.heap := fun b u q => by
    obtain ⟨rfl, _, rfl⟩ := hH b u q
    exact ⟨ha, by rw [List.length_map]; exact hl, vs, _, rv, ha⟩
  have offDict : ∀ {b : Addr} {o : Obj} {es : Array DictEntry} {ep : Nat}, s₁.heap.get? b = some o → o.data = .dict es ep → H b = none := fun {b o es ep} e d => by
    cases q : H b with
    | none => rfl
    | some u =>
      obtain ⟨rfl, _⟩ := hH b u q
      rw [ha] at e
      cases e
      have d' : Data.seq vs.toArray _ = Data.dict es ep := d
      cases d'
  have nsB : ∀ {b : Addr} {m : Str → Option Value}, s₁.heap.Ns b m → (hidT s₁.heap H).Ns b m := fun {b m} ⟨o, es, ep, e, d, r⟩ => ⟨o, es, ep, hidT_get e (offDict e d), d, r⟩
  have kinB : K.In (hidT s₁.heap H) := fun b o e => hidT_get (KX b o e) (by
    cases q : H b with
    | none => rfl
    | some u =>
      obtain ⟨rfl, q2, _⟩ := hH b u q
      rw [q2] at e
      cases e)
  have md : Mod K mg (hidT s₁.heap H) := ⟨kinB, nsB hns, ⟨mb, nsB hb, hbb⟩, let ⟨mc, h1, h2⟩ := hlim; ⟨mc, nsB h1, h2⟩⟩
  have e0 : Env0 P w K mg (hidT s₁.heap H) callerA [] s₁ H := ⟨rfl, md, fun b o e => of_hidT e, Nat.le_of_eq (hidT_size _ _), trivial, fun b hb => absurd (show b ∈ ([] : List Addr) from hb) (by simp), hok, .of_eq hg⟩
  refine codeAny_mono ((F _ kinB (nsB hns)).run callerA [] s₁ H ⟨[.ref a], []⟩ [.ref a] [.ref a] _ _ rfl hr e0 (hbind s₁ (.ref a)) (.cons rfl .nil) (hsp H only hS)) fun r s' h => ?_
  cases r with
  | error e => exact False.elim h
  | ok fl =>
    cases fl with
    | next => exact False.elim h
    | brk => exact False.elim h
    | cont => exact False.elim h
    | ret u =>
      obtain ⟨v, H', os, bare, un, hok', r', q⟩ := h
      have q' : v = .bl true := q
      subst q'
      obtain rfl : u = Value.bool true := r'
      refine ⟨rfl, OldK.of_keep fun b o e => ?_, os, bare⟩
      cases q : H b with
      | none => exact un.keep b o e q (by intro y; exact absurd (show b ∈ ([] : List Addr) from y) (by simp)) (by simp)
      | some u =>
        obtain ⟨rfl, _, rfl⟩ := hH b u q
        obtain ⟨e2, _⟩ := hok' b _ (un.frzs b _ _ q)
        rw [ha] at e
        cases e
        exact e2
theorem walkG {l : PySem.W.OpenLaw} {n k : Nat} {q : Program} {loose : List Str} {XP : (Str → Option Value) → Heap → Prop} {YP : World → Heap → Prop} {d : DefRec} {K : Params → PySem.W.Frag} {sp : PySem.W.Frag → Sp} {x : Str}
    (hn : l.most = some n) (hn2 : n ≤ sizeLine) (hdf : d.params.defaults = []) (hr : Room k callerA) (hY : ∀ (w : World) (h : Heap), YP w h → (K w.params).In h)
    (F : ∀ (w : World) (mg : Str → Option Value) (fa : Addr) (h : Heap), (K w.params).In h → h.Ns mainGlobals mg → mg d.name = some (.ref fa) →
      ∃ fd : FuncData, (∀ (s : Shared) (u : Value), BindsTo s fd ⟨[u], []⟩ [(x, u)]) ∧ ∀ base : Heap, (K w.params).In base → base.Ns mainGlobals mg → FnG l.prog w (K w.params) mg base CX0 k fa fd [x] (sp (K w.params)))
    (hsp : ∀ (K : PySem.W.Frag) (H : Hp) (a : Addr) (ns : List Int), ns.length ≤ n → Only H → SqL K H a (ns.map V.int) → sp K [.ref a] H (fun v _ => v = .bl true) fun _ _ _ => False) :
    PySem.W.WalkO q loose XP YP l.row.toRowW d [] (fun f vs => PySem.call f vs) := by
  refine Att.attach_call hn hdf fun w s₀ s₁ mg mb fa o pm cd doc a vs ns G Y ho hd hcd hmg hobj hints hlen hg => ?_
  have KX := hY w _ Y
  obtain ⟨fd, hb, hF⟩ := F w mg fa _ KX G.T.g hmg
  exact lawG KX G.T.g G.T.b G.T.builtins G.T.nolimit hg hobj hints (Nat.le_trans hlen hn2) hr hF hb (fun H hO hS => hsp _ H a ns hlen hO hS)

/-! ### repr of data -/
def kpy : Key → PyData
  | .inl i => .int i
  | .inr x => .str x
mutual
/-- data of the library's, without instances and exceptions -/
def py : D → PyData
  | .non => .none
  | .bl b => .bool b
  | .int i => .int i
  | .str x => .str x
  | .lst xs => .list (pyA xs)
  | .tup xs => .tuple (pyA xs)
  | .dct kvs => .dict (pyK kvs)
  | _ => .none
def pyA : List D → List PyData
  | [] => []
  | d :: ds => py d :: pyA ds
def pyK : List (Key × D) → List (PyData × PyData)
  | [] => []
  | (k, d) :: ds => (kpy k, py d) :: pyK ds
end
mutual
def isPy : D → Bool
  | .non | .bl _ | .int _ | .str _ => true
  | .lst xs | .tup xs => isPyA xs
  | .dct kvs => isPyK kvs
  | _ => false
def isPyA : List D → Bool
  | [] => true
  | d :: ds => isPy d && isPyA ds
def isPyK : List (Key × D) → Bool
  | [] => true
  | (_, d) :: ds => isPy d && isPyK ds
end
end PD

set_option Elab.async false
set_option linter.all false
set_option maxRecDepth 100000
set_option maxHeartbeats 4000000
/-! PD5: repr of data. -/
namespace PD
open PySem PySem.Spec PyProof.Rows L2
mutual
def dp : D → Nat
  | .lst xs | .tup xs => dpA xs + 1
  | .dct kvs => dpK kvs + 1
  | _ => 0
def dpA : List D → Nat
  | [] => 0
  | d :: ds => max (dp d) (dpA ds)
def dpK : List (Key × D) → Nat
  | [] => 0
  | (_, d) :: ds => max (dp d) (dpK ds)
end
section
variable {z : Zp} {H : Hp}
mutual
theorem R.inj : ∀ (d e : D) (v : V), isPy d = true → isPy e = true → R z H v d → R z H v e → d = e
  | .non, e, _, _, he, h, g => by cases h; cases g <;> first | rfl | (simp [isPy] at he)
  | .bl _, e, _, _, he, h, g => by cases h; cases g <;> first | rfl | (simp [isPy] at he)
  | .int _, e, _, _, he, h, g => by cases h; cases g <;> first | rfl | (simp [isPy] at he)
  | .str _, e, _, _, he, h, g => by cases h; cases g <;> first | rfl | (simp [isPy] at he)
  | .ty _, _, _, hd, _, _, _ => by simp [isPy] at hd
  | .pot, _, _, hd, _, _, _ => by simp [isPy] at hd
  | .raw _, _, _, hd, _, _, _ => by simp [isPy] at hd
  | .dT, _, _, hd, _, _, _ => by simp [isPy] at hd
  | .dtk _, _, _, hd, _, _, _ => by simp [isPy] at hd
  | .obj _ _, _, _, hd, _, _, _ => by simp [isPy] at hd
  | .exc _ _, _, _, hd, _, _, _ => by simp [isPy] at hd
  | .lst ds, e, _, hd, he, h, g => by
    cases h with
    | lst h1 h2 =>
      cases g with
      | raw => simp [isPy] at he
      | dT => simp [isPy] at he
      | dtk => simp [isPy] at he
      | pot => simp [isPy] at he
      | lst g1 g2 =>
        rw [h1] at g1
        cases g1
        rw [RA.inj ds _ _ (by simpa [isPy] using hd) (by simpa [isPy] using he) h2 g2]
      | tup g1 => rw [h1] at g1; cases g1
      | dct g1 => rw [h1] at g1; cases g1
      | obj g1 => rw [h1] at g1; cases g1
      | exc g1 => simp [isPy] at he
      | exc0 g1 => simp [isPy] at he
  | .tup ds, e, _, hd, he, h, g => by
    cases h with
    | tup h1 h2 =>
      cases g with
      | raw => simp [isPy] at he
      | dT => simp [isPy] at he
      | dtk => simp [isPy] at he
      | pot => simp [isPy] at he
      | lst g1 => rw [h1] at g1; cases g1
      | tup g1 g2 =>
        rw [h1] at g1
        cases g1
        rw [RA.inj ds _ _ (by simpa [isPy] using hd) (by simpa [isPy] using he) h2 g2]
      | dct g1 => rw [h1] at g1; cases g1
      | obj g1 => rw [h1] at g1; cases g1
      | exc g1 => simp [isPy] at he
      | exc0 g1 => simp [isPy] at he
  | .dct ds, e, _, hd, he, h, g => by
    cases h with
    | dct h1 h2 =>
      cases g with
      | raw => simp [isPy] at he
      | dT => simp [isPy] at he
      | dtk => simp [isPy] at he
      | pot => simp [isPy] at he
      | lst g1 => rw [h1] at g1; cases g1
      | tup g1 => rw [h1] at g1; cases g1
      | dct g1 g2 =>
        rw [h1] at g1
        cases g1
        rw [RK.inj ds _ _ (by simpa [isPy] using hd) (by simpa [isPy] using he) h2 g2]
      | obj g1 => rw [h1] at g1; cases g1
      | exc g1 => simp [isPy] at he
      | exc0 g1 => simp [isPy] at he
theorem RA.inj : ∀ (ds es : List D) (vs : List V), isPyA ds = true → isPyA es = true → RA z H vs ds → RA z H vs es → ds = es
  | [], es, _, _, _, h, g => by cases h; cases g; rfl
  | d :: ds, es, _, hd, he, h, g => by
    cases h with
    | cons h1 h2 =>
      cases g with
      | cons g1 g2 =>
        simp only [isPyA, Bool.and_eq_true] at hd he
        rw [R.inj d _ _ hd.1 he.1 h1 g1, RA.inj ds _ _ hd.2 he.2 h2 g2]
theorem RK.inj : ∀ (ds es : List (Key × D)) (vs : List (Key × V)), isPyK ds = true → isPyK es = true → RK z H vs ds → RK z H vs es → ds = es
  | [], es, _, _, _, h, g => by cases h; cases g; rfl
  | (k, d) :: ds, es, _, hd, he, h, g => by
    cases h with
    | cons h1 h2 =>
      cases g with
      | cons g1 g2 =>
        simp only [isPyK, Bool.and_eq_true] at hd he
        rw [R.inj d _ _ hd.1 he.1 h1 g1, RK.inj ds _ _ hd.2 he.2 h2 g2]
end
/-- the places below: each stands for data that is no deeper -/
def Below (z : Zp) (H : Hp) (n : Nat) (bs : List Addr) : Prop := ∀ b ∈ bs, ∃ d, isPy d = true ∧ R z H (.ref b) d ∧ dp d ≤ n
theorem Below.le {n m : Nat} {bs : List Addr} (h : Below z H n bs) (l : n ≤ m) : Below z H m bs := fun b hb => by
  obtain ⟨d, h1, h2, h3⟩ := h b hb
  exact ⟨d, h1, h2, Nat.le_trans h3 l⟩
theorem Below.app {n : Nat} {bs cs : List Addr} (h : Below z H n bs) (g : Below z H n cs) : Below z H n (bs ++ cs) := fun b hb => (List.mem_append.mp hb).elim (h b) (g b)
theorem Below.not {n : Nat} {bs : List Addr} {a : Addr} {d : D} (h : Below z H n bs) (hp : isPy d = true) (r : R z H (.ref a) d) (l : n < dp d) : a ∉ bs := fun hb => by
  obtain ⟨e, h1, h2, h3⟩ := h a hb
  rw [R.inj d e _ hp h1 r h2] at l
  omega
theorem Below.cons {n : Nat} {bs : List Addr} {a : Addr} {d : D} (h : Below z H n bs) (hp : isPy d = true) (r : R z H (.ref a) d) (l : n ≤ dp d) : Below z H (dp d) (a :: bs) := fun b hb => by
  rcases List.mem_cons.mp hb with rfl | hb
  · exact ⟨d, hp, r, Nat.le_refl _⟩
  · exact h.le l b hb
end
section
variable {X : Cx} {pins : List (Addr × Obj)} {σ : L2.St} {H : Hp} {s : Shared} {z : Zp}
theorem key_repr {prog : Program} {w : World} {k : Key} {u : Value} (h : keyIs k u = true) (hs : (kpy k).showable = true) (hz : (kpy k).shown.length ≤ sizeLine) : ReprIs prog w u (kpy k).shown := by
  rcases keyIs_shape h with ⟨i, t, rfl, rfl⟩ | ⟨y, t, rfl, rfl⟩
  · simp only [kpy, PyData.shown]
    exact ReprIs.int t (by simpa [kpy, PyData.showable] using hs)
  · simp only [kpy, PyData.shown]
    exact ReprIs.str y t (by simpa only [kpy, PyData.shown] using hz)
mutual
theorem R.reprs (I : Inv X pins σ H s) : ∀ (d : D) (v : V) (u : Value), isPy d = true → R z H v d → RelV v u → (py d).showable = true → (py d).shown.length ≤ sizeLine →
    ∃ bs, Below z H (dp d) bs ∧ ReprK X.prog X.w bs s.heap (dp d) u (py d).shown
  | .non, _, _, _, h, r, _, _ => by
    cases h; cases r
    exact ⟨[], (fun _ h => nomatch h), by simp only [py, PyData.shown]; exact .of_is ReprIs.none _ _ _⟩
  | .bl b, _, _, _, h, r, _, _ => by
    cases h; cases r
    exact ⟨[], (fun _ h => nomatch h), by simp only [py, PyData.shown]; exact .of_is (ReprIs.bool b) _ _ _⟩
  | .int i, _, _, _, h, r, hs, _ => by
    cases h
    obtain ⟨t, rfl⟩ := r
    exact ⟨[], (fun _ h => nomatch h), by simp only [py, PyData.shown]; exact .of_is (ReprIs.int t (by simpa [py, PyData.showable] using hs)) _ _ _⟩
  | .str x, _, _, _, h, r, _, hz => by
    cases h
    obtain ⟨t, rfl⟩ := r
    exact ⟨[], (fun _ h => nomatch h), by simp only [py, PyData.shown]; exact .of_is (ReprIs.str x t (by simpa only [py, PyData.shown] using hz)) _ _ _⟩
  | .ty _, _, _, hp, _, _, _, _ => by simp [isPy] at hp
  | .pot, _, _, hp, _, _, _, _ => by simp [isPy] at hp
  | .raw _, _, _, hp, _, _, _, _ => by simp [isPy] at hp
  | .obj _ _, _, _, hp, _, _, _, _ => by simp [isPy] at hp
  | .exc _ _, _, _, hp, _, _, _, _ => by simp [isPy] at hp
  | .lst ds, _, _, hp, h, r, hs, hz => by
    have h0 := h
    cases h with
    | @lst a xs _ h1 h2 =>
      cases r
      have hz' : (listText (PyData.shownAll (pyA ds))).length ≤ sizeLine := by simpa only [py, PyData.shown] using hz
      obtain ⟨_, its, n, rv, ho⟩ := I.hok a _ h1
      obtain ⟨bs, hb, hk⟩ := RA.reprs I ds xs its (by simpa [isPy] using hp) h2 rv (by simpa [py, PyData.showable] using hs) (fun t ht => Nat.le_trans (listText_mem_le ht) hz')
      have hna : a ∉ bs := hb.not hp h0 (by simp only [dp]; omega)
      refine ⟨a :: bs, hb.cons hp h0 (by simp only [dp]; omega), ?_⟩
      simp only [dp, py, PyData.shown]
      cases its with
      | nil =>
        cases rv
        cases h2
        simp only [pyA, PyData.shownAll, listText_nil]
        exact ReprK.listEmpty ho rfl rfl
      | cons x l => exact ReprK.list ho rfl rfl hna (by simpa using hk.length_eq) (fun i y e => hk.item i y (by simpa using e))
  | .tup ds, _, _, hp, h, r, hs, hz => by
    have h0 := h
    cases h with
    | @tup a xs _ h1 h2 =>
      cases r
      have hz' : (tupleText (PyData.shownAll (pyA ds))).length ≤ sizeLine := by simpa only [py, PyData.shown] using hz
      obtain ⟨_, its, rv, o, ho, hc, n, hd⟩ := I.hok a _ h1
      obtain ⟨bs, hb, hk⟩ := RA.reprs I ds xs its (by simpa [isPy] using hp) h2 rv (by simpa [py, PyData.showable] using hs) (fun t ht => Nat.le_trans (tupleText_mem_le ht) hz')
      have hna : a ∉ bs := hb.not hp h0 (by simp only [dp]; omega)
      refine ⟨a :: bs, hb.cons hp h0 (by simp only [dp]; omega), ?_⟩
      simp only [dp, py, PyData.shown]
      exact ReprK.tuple ho hc hd hna (by simpa using hk)
  | .dct ds, _, _, hp, h, r, hs, hz => by
    have h0 := h
    cases h with
    | @dct a xs _ h1 h2 =>
      cases r
      have hz' : (dictText (PyData.shownKv (pyK ds))).length ≤ sizeLine := by simpa only [py, PyData.shown] using hz
      obtain ⟨_, hsys, vs, rv, o, es, ep, ho, hx, hd, _, prs, _⟩ := I.hok a _ h1
      obtain ⟨bs, hb, hk⟩ := RK.reprs I ds xs vs es.toList (by simpa [isPy] using hp) h2 rv prs (by simpa [py, PyData.showable] using hs) (fun t ht => Nat.le_trans (dictText_mem_le ht) hz')
      have hna : a ∉ bs := hb.not hp h0 (by simp only [dp]; omega)
      refine ⟨a :: bs, hb.cons hp h0 (by simp only [dp]; omega), ?_⟩
      simp only [dp, py, PyData.shown]
      exact ReprK.dict ho hx.1 hd hsys hna hk
theorem RA.reprs (I : Inv X pins σ H s) : ∀ (ds : List D) (vs : List V) (us : List Value), isPyA ds = true → RA z H vs ds → Vals vs us → PyData.showableAll (pyA ds) = true → (∀ t ∈ PyData.shownAll (pyA ds), t.length ≤ sizeLine) →
    ∃ bs, Below z H (dpA ds) bs ∧ ReprAllK X.prog X.w bs s.heap (dpA ds) us (PyData.shownAll (pyA ds))
  | [], _, _, _, h, r, _, _ => by
    cases h; cases r
    exact ⟨[], (fun _ h => nomatch h), by simp only [pyA, PyData.shownAll]; exact .nil⟩
  | d :: ds, _, _, hp, h, r, hs, hz => by
    cases h with
    | cons h1 h2 =>
      cases r with
      | cons r1 r2 =>
        simp only [isPyA, Bool.and_eq_true] at hp
        simp only [pyA, PyData.showableAll, Bool.and_eq_true] at hs
        obtain ⟨b1, hb1, k1⟩ := R.reprs I d _ _ hp.1 h1 r1 hs.1 (hz _ (by simp only [pyA, PyData.shownAll]; exact List.mem_cons_self ..))
        obtain ⟨b2, hb2, k2⟩ := RA.reprs I ds _ _ hp.2 h2 r2 hs.2 (fun t ht => hz t (by simp only [pyA, PyData.shownAll]; exact List.mem_cons_of_mem _ ht))
        refine ⟨b1 ++ b2, (hb1.le (by simp only [dpA]; exact Nat.le_max_left ..)).app (hb2.le (by simp only [dpA]; exact Nat.le_max_right ..)), ?_⟩
        simp only [dpA, pyA, PyData.shownAll]
        exact .cons ((k1.more fun b hb => List.mem_append_left _ hb).level_le (Nat.le_max_left ..)) (k2.more_le (fun b hb => List.mem_append_right _ hb) (Nat.le_max_right ..))
theorem RK.reprs (I : Inv X pins σ H s) : ∀ (ds : List (Key × D)) (xs : List (Key × V)) (vs : List (Key × Value)) (es : List DictEntry), isPyK ds = true → RK z H xs ds → KV xs vs → Pairs (mixKind X.prog X.w) es vs → PyData.showableKv (pyK ds) = true → (∀ t ∈ PyData.shownKv (pyK ds), t.length ≤ sizeLine) →
    ∃ bs, Below z H (dpK ds) bs ∧ ReprEntriesK X.prog X.w bs s.heap (dpK ds) es (PyData.shownKv (pyK ds))
  | [], _, _, _, _, h, r, p, _, _ => by
    cases h; cases r; cases p
    exact ⟨[], (fun _ h => nomatch h), by simp only [pyK, PyData.shownKv]; exact .nil⟩
  | (k, d) :: ds, _, _, _, hp, h, r, p, hs, hz => by
    cases h with
    | @cons _ v _ _ _ h1 h2 =>
      cases r with
      | cons r1 r2 =>
        cases p with
        | @cons e kv es kvs p1 p2 p3 =>
          simp only [isPyK, Bool.and_eq_true] at hp
          simp only [pyK] at hs hz ⊢
          simp only [PyData.showableKv, Bool.and_eq_true] at hs
          have hz0 := hz _ (by simp only [PyData.shownKv]; exact List.mem_cons_self ..)
          rw [strLen_append, strLen_append] at hz0
          have rv : RelV v e.val := by rw [p2]; exact r1.2
          obtain ⟨b1, hb1, k1⟩ := R.reprs I d _ _ hp.1 h1 rv hs.1.2 (by omega)
          obtain ⟨b2, hb2, k2⟩ := RK.reprs I ds _ _ _ hp.2 h2 r2 p3 hs.2 (fun t ht => hz t (by simp only [PyData.shownKv]; exact List.mem_cons_of_mem _ ht))
          have hk : keyIs k e.key = true := by
            have q : keyIs _ e.key = true := p1
            rw [← r1.1] at q
            exact q
          refine ⟨b1 ++ b2, (hb1.le (by simp only [dpK]; exact Nat.le_max_left ..)).app (hb2.le (by simp only [dpK]; exact Nat.le_max_right ..)), ?_⟩
          simp only [dpK, PyData.shownKv]
          refine .cons (.of_is (key_repr hk hs.1.1 (by omega)) _ _ _) ((k1.more fun b hb => List.mem_append_left _ hb).level_le (Nat.le_max_left ..)) ?_
          exact more_entries (fun b hb => List.mem_append_right _ hb) (Nat.le_max_right ..) k2
theorem more_entries {prog : Program} {w : World} {h₀ : Heap} {as as' : List Addr} {d d' : Nat} (hs : ∀ b ∈ as, b ∈ as') (hd : d ≤ d') : ∀ {es : List DictEntry} {ps : List Str}, ReprEntriesK prog w as h₀ d es ps → ReprEntriesK prog w as' h₀ d' es ps
  | [], _, h => by cases h; exact .nil
  | _ :: es, _, h => by cases h with | cons h1 h2 h3 => exact .cons ((h1.more hs).level_le hd) ((h2.more hs).level_le hd) (more_entries hs hd h3)
end
/-- repr(x), x data, where no repr is under way -/
def rRepr : List V → Hp → VK → Prop := fun xs H Q => ∃ (x : V) (d : D), xs = [x] ∧ isPy d = true ∧ R ⟨none, []⟩ H x d ∧ (py d).showable = true ∧ (py d).shown.length ≤ sizeLine ∧ dp d ≤ 60 ∧ Q (.str (py d).shown) H
end
end PD

set_option Elab.async false
set_option linter.all false
set_option maxRecDepth 100000
set_option maxHeartbeats 4000000
/-! PD6: repr called; operators, built-ins by data. -/
namespace PD
open PySem PySem.Spec PyProof.Rows L2
section
variable {X : Cx}
theorem call_reprD (hg : X.A.guards = some []) (hu : X.A.units + 64 < cLine) : CallR X (.builtin "repr") rRepr := by
  intro pins s σ H xs us Q I r h
  obtain ⟨x, d, rfl, hp, rd, hs, hz, hd, q⟩ := h
  cases r with
  | cons rx rr =>
    cases rr
    have key : ∀ h' tk (m : Str) (t : Tok), (∀ b o, s.heap.get? b = some o → h'.get? b = some o) → m = (py d).shown → EP X pins σ Q (.str m t) { s with heap := h', toks := tk } := fun h' tk m t k e => by
      subst e
      exact ⟨.str _, H, I.kept (t' := tk) k, ⟨t, rfl⟩, q⟩
    cases d with
    | non => cases rd; cases rx; exact PySem.P.repr_of_none (key _ _ _ _ (fun _ _ e => e) (by simp only [py, PyData.shown]))
    | bl b => cases rd; cases rx; exact PySem.P.repr_of_bool (key _ _ _ _ (fun _ _ e => e) (by simp only [py, PyData.shown]))
    | int i => cases rd; obtain ⟨t, rfl⟩ := rx; exact PySem.P.repr_of_int (by simpa [py, PyData.showable] using hs) (key _ _ _ _ (fun _ _ e => e) (by simp only [py, PyData.shown]))
    | str y => cases rd; obtain ⟨t, rfl⟩ := rx; exact PySem.P.repr_of_str (key _ _ _ _ (fun _ _ e => e) (by simp only [py, PyData.shown])) (by simpa only [py, PyData.shown] using hz)
    | ty _ => simp [isPy] at hp
    | pot => simp [isPy] at hp
    | raw _ => simp [isPy] at hp
    | dT => simp [isPy] at hp
    | dtk _ => simp [isPy] at hp
    | obj _ _ => simp [isPy] at hp
    | exc _ _ => simp [isPy] at hp
    | lst ds =>
      have rd0 := rd
      cases rd with
      | @lst a xs _ h1 h2 =>
        cases rx
        have hz' : (listText (PyData.shownAll (pyA ds))).length ≤ sizeLine := by simpa only [py, PyData.shown] using hz
        obtain ⟨_, its, n, rv, ho⟩ := I.hok a _ h1
        obtain ⟨bs, hb, hk⟩ := RA.reprs I ds xs its (by simpa [isPy] using hp) h2 rv (by simpa [py, PyData.showable] using hs) (fun t ht => Nat.le_trans (listText_mem_le ht) hz')
        have hna : a ∉ bs := hb.not hp rd0 (by simp only [dp]; omega)
        simp only [dp] at hd
        refine call_repr_slot (by omega) ⟨_, ho, rfl⟩ F.slot_list_repr.toG ?_
        cases its with
        | nil =>
          cases rv
          cases h2
          exact call_list_repr_empty ⟨_, ho, rfl⟩ ho rfl ⟨_, _, rfl, key _ _ _ _ (fun _ _ e => e) (by simp only [py, pyA, PyData.shown, PyData.shownAll, listText_nil])⟩
        | cons x l =>
          exact call_list_reprK ho rfl rfl hna (by simpa using hk.length_eq) (fun i y e => hk.item i y (by simpa using e)) hg (fun b _ => Clear.nil b) (by show X.A.units + 1 + _ < _; omega) (fun _ _ e => e)
            (fun h' u tk k => ⟨_, _, rfl, key _ _ _ _ k (by simp only [py, PyData.shown])⟩) hz'
    | tup ds =>
      have rd0 := rd
      cases rd with
      | @tup a xs _ h1 h2 =>
        cases rx
        have hz' : (tupleText (PyData.shownAll (pyA ds))).length ≤ sizeLine := by simpa only [py, PyData.shown] using hz
        obtain ⟨_, its, rv, o, ho, hc, n, hdt⟩ := I.hok a _ h1
        obtain ⟨bs, hb, hk⟩ := RA.reprs I ds xs its (by simpa [isPy] using hp) h2 rv (by simpa [py, PyData.showable] using hs) (fun t ht => Nat.le_trans (tupleText_mem_le ht) hz')
        have hna : a ∉ bs := hb.not hp rd0 (by simp only [dp]; omega)
        simp only [dp] at hd
        refine call_repr_slot (by omega) ⟨_, ho, hc⟩ F.slot_tuple_repr ?_
        exact call_tuple_reprK ho hc hdt hna (by simpa using hk) hg (fun b _ => Clear.nil b) (by show X.A.units + 1 + _ < _; omega) (fun _ _ e => e)
          (fun h' u tk k => ⟨_, _, rfl, key _ _ _ _ k (by simp only [py, PyData.shown])⟩) hz'
    | dct ds =>
      have rd0 := rd
      cases rd with
      | @dct a xs _ h1 h2 =>
        cases rx
        have hz' : (dictText (PyData.shownKv (pyK ds))).length ≤ sizeLine := by simpa only [py, PyData.shown] using hz
        obtain ⟨_, hsys, vs, rv, o, es, ep, ho, hx, hdt, _, prs, _⟩ := I.hok a _ h1
        obtain ⟨bs, hb, hk⟩ := RK.reprs I ds xs vs es.toList (by simpa [isPy] using hp) h2 rv prs (by simpa [py, PyData.showable] using hs) (fun t ht => Nat.le_trans (dictText_mem_le ht) hz')
        have hna : a ∉ bs := hb.not hp rd0 (by simp only [dp]; omega)
        simp only [dp] at hd
        refine call_repr_slot (by omega) ⟨_, ho, hx.1⟩ F.slot_dict_repr ?_
        exact call_dict_reprK ho hx.1 hdt hsys hna hk hg (fun b _ => Clear.nil b) (by show X.A.units + 1 + _ < _; omega) (fun _ _ e => e)
          (fun h' u tk k => ⟨_, _, rfl, key _ _ _ _ k (by simp only [py, PyData.shown])⟩) hz'
end
mutual
/-- what is plain data stands for the same in any larger view -/
theorem R.plain {z z' : Zp} {H : Hp} : ∀ (d : D) (v : V), isPy d = true → R z H v d → R z' H v d
  | .non, _, _, h => by cases h; exact .non
  | .bl _, _, _, h => by cases h; exact .bl _
  | .int _, _, _, h => by cases h; exact .int _
  | .str _, _, _, h => by cases h; exact .str _
  | .ty _, _, hp, _ => by simp [isPy] at hp
  | .pot, _, hp, _ => by simp [isPy] at hp
  | .raw _, _, hp, _ => by simp [isPy] at hp
  | .obj _ _, _, hp, _ => by simp [isPy] at hp
  | .exc _ _, _, hp, _ => by simp [isPy] at hp
  | .lst ds, _, hp, h => by cases h with | lst h1 h2 => exact .lst h1 (RA.plain ds _ (by simpa [isPy] using hp) h2)
  | .tup ds, _, hp, h => by cases h with | tup h1 h2 => exact .tup h1 (RA.plain ds _ (by simpa [isPy] using hp) h2)
  | .dct ds, _, hp, h => by cases h with | dct h1 h2 => exact .dct h1 (RK.plain ds _ (by simpa [isPy] using hp) h2)
theorem RA.plain {z z' : Zp} {H : Hp} : ∀ (ds : List D) (vs : List V), isPyA ds = true → RA z H vs ds → RA z' H vs ds
  | [], _, _, h => by cases h; exact .nil
  | d :: ds, _, hp, h => by
    simp only [isPyA, Bool.and_eq_true] at hp
    cases h with | cons h1 h2 => exact .cons (R.plain d _ hp.1 h1) (RA.plain ds _ hp.2 h2)
theorem RK.plain {z z' : Zp} {H : Hp} : ∀ (ds : List (Key × D)) (vs : List (Key × V)), isPyK ds = true → RK z H vs ds → RK z' H vs ds
  | [], _, _, h => by cases h; exact .nil
  | (k, d) :: ds, _, hp, h => by
    simp only [isPyK, Bool.and_eq_true] at hp
    cases h with | cons h1 h2 => exact .cons (R.plain d _ hp.1 h1) (RK.plain ds _ hp.2 h2)
end
mutual
theorem R.dp {K : PySem.W.Frag} {z : Zp} {H : Hp} : ∀ (d : D) (v : V), isPy d = true → (py d).canLay0 = true → R z H v d → Dp K H v (py d)
  | .non, _, _, _, h => by cases h; simp only [py]; exact .non
  | .bl _, _, _, _, h => by cases h; simp only [py]; exact .bl _
  | .int _, _, _, _, h => by cases h; simp only [py]; exact .int _
  | .str _, _, _, _, h => by cases h; simp only [py]; exact .str _
  | .ty _, _, hp, _, _ => by simp [isPy] at hp
  | .pot, _, hp, _, _ => by simp [isPy] at hp
  | .raw _, _, hp, _, _ => by simp [isPy] at hp
  | .obj _ _, _, hp, _, _ => by simp [isPy] at hp
  | .exc _ _, _, hp, _, _ => by simp [isPy] at hp
  | .lst ds, _, hp, hc, h => by cases h with | lst h1 h2 => simp only [py]; exact .lst (.inl (.inl h1)) (RA.dp ds _ (by simpa [isPy] using hp) (by simpa [py, PyData.canLay0] using hc) h2)
  | .tup ds, _, hp, hc, h => by cases h with | tup h1 h2 => simp only [py]; exact .tup (.inl (.inl h1)) (RA.dp ds _ (by simpa [isPy] using hp) (by simpa [py, PyData.canLay0] using hc) h2)
  | .dct ds, _, _, hc, _ => by simp [py, PyData.canLay0] at hc
theorem RA.dp {K : PySem.W.Frag} {z : Zp} {H : Hp} : ∀ (ds : List D) (vs : List V), isPyA ds = true → PyData.canLayAll0 (pyA ds) = true → RA z H vs ds → DpAll K H vs (pyA ds)
  | [], _, _, _, h => by cases h; simp only [pyA]; exact .nil
  | d :: ds, _, hp, hc, h => by
    simp only [isPyA, Bool.and_eq_true] at hp
    simp only [pyA, PyData.canLayAll0, Bool.and_eq_true] at hc
    cases h with | cons h1 h2 => simp only [pyA]; exact .cons (R.dp d _ hp.1 hc.1 h1) (RA.dp ds _ hp.2 hc.2 h2)
end

/-! ### operators -/
def dv : V → D
  | .non => .non
  | .bl b => .bl b
  | .int i => .int i
  | .str x => .str x
  | .ty n => .ty n
  | v => .raw v
theorem r_dv {z : Zp} {H : Hp} : ∀ v : V, R z H v (dv v)
  | .non => .non
  | .bl _ => .bl _
  | .int _ => .int _
  | .str _ => .str _
  | .ty _ => .ty _
  | .byt _ => .raw _
  | .flt _ => .raw _
  | .ref _ => .raw _
section
variable {z : Zp} {P : D → Prop} {K : PySem.W.Frag}
theorem o_I0 {g : Int → Int → V} {d e : D} (h : ∃ i j, d = .int i ∧ e = .int j ∧ P (dv (g i j))) : O2 z (rI0 g) d e P := fun hs x y H p rx ry Q w => by
  obtain ⟨i, j, rfl, rfl, q⟩ := h
  cases rx; cases ry
  exact ⟨i, j, rfl, rfl, w.here p (r_dv _) q⟩
theorem o_I {C : Int → Int → Prop} {g : Int → Int → V} {d e : D} (h : ∃ i j, d = .int i ∧ e = .int j ∧ C i j ∧ P (dv (g i j))) : O2 z (rI C g) d e P := fun hs x y H p rx ry Q w => by
  obtain ⟨i, j, rfl, rfl, c, q⟩ := h
  cases rx; cases ry
  exact ⟨i, j, rfl, rfl, c, w.here p (r_dv _) q⟩
theorem o_eqI {i j : Int} (q : P (.bl (decide (i = j)))) : O2 z rEq (.int i) (.int j) P := fun hs x y H p rx ry Q w => by
  cases rx; cases ry
  refine ⟨rfl, w.here p (.bl _) ?_⟩
  have e : decide (V.int i = V.int j) = decide (i = j) := decide_eq_decide.mpr ⟨V.int.inj, congrArg V.int⟩
  rw [e]
  exact q
theorem o_neI {i j : Int} (q : P (.bl (!decide (i = j)))) : O2 z rNe (.int i) (.int j) P := fun hs x y H p rx ry Q w => by
  cases rx; cases ry
  refine ⟨rfl, w.here p (.bl _) ?_⟩
  have e : decide (V.int i = V.int j) = decide (i = j) := decide_eq_decide.mpr ⟨V.int.inj, congrArg V.int⟩
  rw [e]
  exact q
theorem o_eqS {i j : Str} (q : P (.bl (decide (i = j)))) : O2 z rEq (.str i) (.str j) P := fun hs x y H p rx ry Q w => by
  cases rx; cases ry
  refine ⟨rfl, w.here p (.bl _) ?_⟩
  have e : decide (V.str i = V.str j) = decide (i = j) := decide_eq_decide.mpr ⟨V.str.inj, congrArg V.str⟩
  rw [e]
  exact q
theorem o_neS {i j : Str} (q : P (.bl (!decide (i = j)))) : O2 z rNe (.str i) (.str j) P := fun hs x y H p rx ry Q w => by
  cases rx; cases ry
  refine ⟨rfl, w.here p (.bl _) ?_⟩
  have e : decide (V.str i = V.str j) = decide (i = j) := decide_eq_decide.mpr ⟨V.str.inj, congrArg V.str⟩
  rw [e]
  exact q
theorem o_eqD {d e : D} (h1 : isPy d = true) (h2 : isPy e = true) (s1 : SeqAt.shaped (py d) = true) (s2 : SeqAt.shaped (py e) = true) (q : P (.bl (PyData.eqv (py d) (py e)))) : O2 z (rEqD K) d e P := fun hs x y H p rx ry Q w =>
  ⟨_, _, R.dp d x h1 (SeqAt.canLay_of_shaped s1) (R.mono hid_sub _ _ rx), R.dp e y h2 (SeqAt.canLay_of_shaped s2) (R.mono hid_sub _ _ ry), s1, s2, w.here p (.bl _) q⟩
theorem o_neD {d e : D} (h1 : isPy d = true) (h2 : isPy e = true) (s1 : SeqAt.shaped (py d) = true) (s2 : SeqAt.shaped (py e) = true) (q : P (.bl (!PyData.eqv (py d) (py e)))) : O2 z (rNeD K) d e P := fun hs x y H p rx ry Q w =>
  ⟨_, _, R.dp d x h1 (SeqAt.canLay_of_shaped s1) (R.mono hid_sub _ _ rx), R.dp e y h2 (SeqAt.canLay_of_shaped s2) (R.mono hid_sub _ _ ry), s1, s2, w.here p (.bl _) q⟩
theorem o_cat {d e : D} (h : ∃ a b, d = .lst a ∧ e = .lst b ∧ a.length + b.length ≤ sizeLine ∧ P (.lst (a ++ b))) : O2 z rCat d e P := fun hs x y H p rx ry Q w => by
  obtain ⟨a, b, rfl, rfl, hl, q⟩ := h
  cases rx with
  | lst h1 h2 =>
    cases ry with
    | lst g1 g2 => exact ⟨_, _, _, _, rfl, rfl, hid_sub _ _ h1, hid_sub _ _ g1, by rw [h2.length, g2.length]; exact hl, fun l n => new_w w p n (fun H' e1 e2 => .lst e1 ((RA.mono e2 _ _ h2).append (RA.mono e2 _ _ g2))) q⟩
theorem rep_flat {α : Type} (x : α) : ∀ n : Nat, (List.replicate n [x]).flatten = List.replicate n x
  | 0 => rfl
  | n + 1 => by rw [List.replicate_succ, List.flatten_cons, rep_flat x n]; rfl
theorem o_rep1 {d e : D} (h : ∃ (a : D) (k : Nat), d = .lst [a] ∧ e = .int k ∧ k ≤ 100000 ∧ P (.lst (List.replicate k a))) : O2 z rRep d e P := fun hs x y H p rx ry Q w => by
  obtain ⟨a, k, rfl, rfl, hl, q⟩ := h
  cases ry
  cases rx with
  | lst h1 h2 =>
    cases h2 with
    | cons h2 h3 =>
      cases h3
      refine ⟨_, _, _, rfl, rfl, hid_sub _ _ h1, by omega, by omega, ?_, fun l n => ?_⟩
      · rw [Int.toNat_natCast]
        exact Nat.le_trans (by simpa using hl) (by decide)
      · rw [Int.toNat_natCast, rep_flat]
        exact new_w w p n (fun H' e1 e2 => .lst e1 (RA.replicate (R.mono e2 _ _ h2) k)) q
theorem o_ixL {d e : D} (h : ∃ (ds : List D) (i : Int) (v : D), d = .lst ds ∧ e = .int i ∧ atI ds i = some v ∧ P v) : O2 z (rIxL K) d e P := fun hs x y H p rx ry Q w => by
  obtain ⟨ds, i, v, rfl, rfl, hi, q⟩ := h
  cases ry
  cases rx with
  | lst h1 h2 =>
    unfold atI at hi
    obtain ⟨j, hj, hi⟩ := Option.bind_eq_some_iff.mp hi
    obtain ⟨u, hu, r⟩ := h2.get' hi
    refine ⟨_, _, _, u, rfl, rfl, .inl (.inl (hid_sub _ _ h1)), ?_, w.here p r q⟩
    unfold atI
    rw [h2.length, hj, Option.bind_some, hu]
theorem o_ixT {d e : D} (h : ∃ (ds : List D) (i : Int) (v : D), d = .tup ds ∧ e = .int i ∧ atI ds i = some v ∧ P v) : O2 z (rIxT K) d e P := fun hs x y H p rx ry Q w => by
  obtain ⟨ds, i, v, rfl, rfl, hi, q⟩ := h
  cases ry
  cases rx with
  | tup h1 h2 =>
    unfold atI at hi
    obtain ⟨j, hj, hi⟩ := Option.bind_eq_some_iff.mp hi
    obtain ⟨u, hu, r⟩ := h2.get' hi
    refine ⟨_, _, _, u, rfl, rfl, .inl (.inl (hid_sub _ _ h1)), ?_, w.here p r q⟩
    unfold atI
    rw [h2.length, hj, Option.bind_some, hu]
def cutD (ds : List D) (lo hi : Option Int) : List D := (ds.drop (HT.sIx ds.length 0 lo)).take (HT.sIx ds.length ds.length hi - HT.sIx ds.length 0 lo)
theorem o_slL {lo hi : Option Int} {d : D} (h : ∃ ds, d = .lst ds ∧ P (.lst (cutD ds lo hi))) : O1 z (fun x => rSlL K x lo hi) d P := fun hs x H p rx Q w => by
  obtain ⟨ds, rfl, q⟩ := h
  cases rx with
  | lst h1 h2 => exact ⟨_, _, rfl, .inl (.inl (hid_sub _ _ h1)), fun l n => new_w w p n (fun H' e1 e2 => .lst e1 (by
      unfold cutV cutD
      rw [h2.length]
      exact (((RA.mono e2 _ _ h2).drop _).take _))) q⟩
/-- len by data -/
def lenD : D → Option Nat
  | .str x => if x.length ≤ sizeLine then some x.length else none
  | .lst ds => some ds.length
  | .tup ds => some ds.length
  | _ => none
theorem o_len {ds : List D} (h : ∃ d n, ds = [d] ∧ lenD d = some n ∧ P (.int (n : Nat))) : OC z (fun xs H Q => ∃ x n, xs = [x] ∧ LenV K x H n ∧ Q (.int n) H) ds P := fun hs xs H p rs Q w => by
  obtain ⟨d, n, rfl, hn, q⟩ := h
  cases rs with
  | cons r rs =>
    cases rs
    refine ⟨_, n, rfl, ?_, w.here p (.int _) q⟩
    cases d with
    | str x =>
      cases r
      simp only [lenD] at hn
      split at hn
      · exact ⟨by assumption, (Option.some.inj hn).symm⟩
      · cases hn
    | lst es =>
      cases r with
      | lst h1 h2 => exact .inl ⟨_, .inl (.inl (hid_sub _ _ h1)), by rw [h2.length]; exact (Option.some.inj hn).symm⟩
    | tup es =>
      cases r with
      | tup h1 h2 => exact .inr ⟨_, .inl (.inl (hid_sub _ _ h1)), by rw [h2.length]; exact (Option.some.inj hn).symm⟩
    | _ => cases hn
theorem o_repr {ds : List D} (h : ∃ d, ds = [d] ∧ isPy d = true ∧ (py d).showable = true ∧ (py d).shown.length ≤ sizeLine ∧ dp d ≤ 60 ∧ P (.str (py d).shown)) : OC z rRepr ds P := fun hs xs H p rs Q w => by
  obtain ⟨d, rfl, h1, h2, h3, h4, q⟩ := h
  cases rs with
  | cons r rs =>
    cases rs
    exact ⟨_, d, rfl, h1, R.plain d _ h1 (R.mono hid_sub _ _ r), h2, h3, h4, w.here p (.str _) q⟩
theorem o_abs {ds : List D} (h : ∃ i, ds = [.int i] ∧ P (.int (if i < 0 then -i else i))) : OC z (fun xs H Q => ∃ i, xs = [.int i] ∧ Q (.int (if i < 0 then -i else i)) H) ds P := fun hs xs H p rs Q w => by
  obtain ⟨i, rfl, q⟩ := h
  cases rs with
  | cons r rs => cases rs; cases r; exact ⟨i, rfl, w.here p (.int _) q⟩
theorem o_max2 {ds : List D} (h : ∃ i j, ds = [.int i, .int j] ∧ P (.int (if j > i then j else i))) : OC z (fun xs H Q => ∃ i j, xs = [.int i, .int j] ∧ Q (.int (if j > i then j else i)) H) ds P := fun hs xs H p rs Q w => by
  obtain ⟨i, j, rfl, q⟩ := h
  cases rs with
  | cons r rs => cases rs with | cons r2 rs => cases rs; cases r; cases r2; exact ⟨i, j, rfl, w.here p (.int _) q⟩
theorem o_min2 {ds : List D} (h : ∃ i j, ds = [.int i, .int j] ∧ P (.int (if j < i then j else i))) : OC z (fun xs H Q => ∃ i j, xs = [.int i, .int j] ∧ Q (.int (if j < i then j else i)) H) ds P := fun hs xs H p rs Q w => by
  obtain ⟨i, j, rfl, q⟩ := h
  cases rs with
  | cons r rs => cases rs with | cons r2 rs => cases rs; cases r; cases r2; exact ⟨i, j, rfl, w.here p (.int _) q⟩
theorem o_int1 {ds : List D} (h : ∃ i, ds = [.int i] ∧ P (.int i)) : OC z (fun xs H Q => (∃ i, xs = [.int i] ∧ Q (.int i) H) ∨ ∃ k, xs = [.bl k] ∧ Q (.int (if k then 1 else 0)) H) ds P := fun hs xs H p rs Q w => by
  obtain ⟨i, rfl, q⟩ := h
  cases rs with
  | cons r rs => cases rs; cases r; exact .inl ⟨i, rfl, w.here p (.int _) q⟩
theorem ra_bools {H : Hp} {zz : Zp} : ∀ (bs : List Bool) (vs : List V), RA zz H vs (bs.map D.bl) → vs = bs.map V.bl
  | [], _, h => by cases h; rfl
  | b :: bs, _, h => by cases h with | cons h1 h2 => cases h1; rw [ra_bools bs _ h2]; rfl
theorem o_all {ds : List D} (h : ∃ bs : List Bool, ds = [.lst (bs.map D.bl)] ∧ P (.bl (bs.all id))) : OC z (rAll K) ds P := fun hs xs H p rs Q w => by
  obtain ⟨bs, rfl, q⟩ := h
  cases rs with
  | cons r rs =>
    cases rs
    cases r with
    | lst h1 h2 => exact ⟨_, bs, rfl, by rw [← ra_bools bs _ h2]; exact .inl (.inl (hid_sub _ _ h1)), w.here p (.bl _) q⟩

/-! ### exceptions -/
/-- what C's __init__ makes of a fresh exception at a: fs the fields in the parameters' order -/
def spXI (C : Addr) (fs : List Str) : Sp := fun vs H Q _ => ∃ a us, vs = .ref a :: us ∧ us.length = fs.length ∧ H a = some (exo a C none) ∧
  ∀ H', (∀ b o, b ≠ a → H b = some o → H' b = some o) → (∀ b ps, H' b = some (.tbl ps) → H b = some (.tbl ps)) → (if fs = [] then H' a = some (exo a C none) else ∃ d, H d = none ∧ H' a = some (exo a C (some d)) ∧ H' d = some (exd d (fs.zip us).reverse)) → Q .non H'
theorem rf_zip {zz : Zp} {H : Hp} : ∀ (fs : List Str) (ds : List D) (vs : List V), RA zz H vs ds → RF zz H (fs.zip vs) (fs.zip ds)
  | [], _, _, _ => by simp; exact .nil
  | _ :: _, [], _, h => by cases h; simp; exact .nil
  | f :: fs, _ :: ds, _, h => by cases h with | cons h1 h2 => exact .cons h1 (rf_zip fs ds _ h2)
theorem rf_app {zz : Zp} {H : Hp} : ∀ {ds es : List (Str × D)} {vs us : List (Str × V)}, RF zz H vs ds → RF zz H us es → RF zz H (vs ++ us) (ds ++ es)
  | [], _, _, _, h, g => by cases h; exact g
  | _ :: _, _, _, _, h, g => by cases h with | cons h1 h2 => exact .cons h1 (rf_app h2 g)
theorem rf_rev {zz : Zp} {H : Hp} : ∀ {ds : List (Str × D)} {vs : List (Str × V)}, RF zz H vs ds → RF zz H vs.reverse ds.reverse
  | [], _, h => by cases h; exact .nil
  | _ :: _, _, h => by cases h with | cons h1 h2 => simp only [List.reverse_cons]; exact rf_app (rf_rev h2) (.cons h1 .nil)
theorem mkv_core {C : Addr} {fs : List Str} {hs : Addr → Prop} {H : Hp} {Q : VK} {vs : List V} {ds : List D} (p : Ok z hs H) (w : Wd z hs H P Q) (rs : RA z (hid z hs H) vs ds) (hl : ds.length = fs.length) (q : P (.exc C (fs.zip ds).reverse)) (a : Addr) (n : H a = none) :
    spXI C fs (.ref a :: vs) (upd H a (exo a C none)) (fun v H3 => v = .non ∧ Q (.ref a) H3) fun _ _ _ => False := by
  refine ⟨a, vs, rfl, by rw [rs.length, hl], upd_same, fun H' k tb h => ⟨rfl, ?_⟩⟩
  obtain ⟨n1, n2⟩ := p.off n
  have e1 : ExZ z H H' := fun b o _ hb => k b o (ne_of_none hb n) (by rw [upd_ne (ne_of_none hb n)]; exact hb)
  have p1 : Ok z hs H' := p.next e1 (p.pot.keep (fun b o hb => k b o (ne_of_none hb n) (by rw [upd_ne (ne_of_none hb n)]; exact hb)) fun b ps hb => by
    have h0 := tb b ps hb
    by_cases e : b = a
    · rw [e, upd_same] at h0
      cases h0
    · rwa [upd_ne e] at h0)
  refine w _ H' _ e1 p1 ?_ q
  by_cases hf : fs = []
  · subst hf
    rw [if_pos rfl] at h
    simp only [List.zip_nil_left, List.reverse_nil]
    exact .exc0 (by rw [hid_ne n1 n2]; exact h)
  · rw [if_neg hf] at h
    obtain ⟨d, nd, h1, h2⟩ := h
    have nda : d ≠ a := fun e => by rw [e, upd_same] at nd; cases nd
    rw [upd_ne nda] at nd
    obtain ⟨m1, m2⟩ := p.off nd
    exact .exc (by rw [hid_ne n1 n2]; exact h1) (by rw [hid_ne m1 m2]; exact h2) (rf_rev (rf_zip _ _ _ (RA.mono (exz_hid e1) _ _ rs)))
theorem e_mkv {C : Addr} {fs : List Str} {ta : TA} {ρ : List (Option D)} (h : EA z ta ρ fun ds => ds.length = fs.length ∧ ds.length ≤ 1000 ∧ P (.exc C (fs.zip ds).reverse)) : E1 z (tMkV C (spXI C fs) (fun vs _ => vs) ta tNil) ρ P := fun hs σ H p s Q w =>
  h hs σ H p s _ fun vs H1 ds e1 p1 rs ⟨hl, hz, q⟩ => ⟨by rw [rs.length]; exact hz, fun a n => mkv_core p1 (w.back e1) rs hl q a n⟩
theorem e_mkvK {C : Addr} {fs : List Str} {tk : TA} {ρ : List (Option D)} (h : EA z tk ρ fun ds => ds.length = fs.length ∧ P (.exc C (fs.zip ds).reverse)) : E1 z (tMkV C (spXI C fs) (fun vs zs => vs ++ zs) tNil tk) ρ P := fun hs σ H p s Q w =>
  h hs σ H p s _ fun vs H1 ds e1 p1 rs ⟨hl, q⟩ => ⟨Nat.zero_le _, fun a n => mkv_core p1 (w.back e1) rs hl q a n⟩
theorem RA.reverse {zz : Zp} {H : Hp} : ∀ {ds : List D} {vs : List V}, RA zz H vs ds → RA zz H vs.reverse ds.reverse
  | [], _, h => by cases h; exact .nil
  | _ :: _, _, h => by cases h with | cons h1 h2 => simp only [List.reverse_cons]; exact (RA.reverse h2).append (.cons h1 .nil)
theorem e_mkvKr {C : Addr} {fs : List Str} {tk : TA} {ρ : List (Option D)} (h : EA z tk ρ fun ds => ds.length = fs.length ∧ P (.exc C (fs.zip ds.reverse).reverse)) : E1 z (tMkV C (spXI C fs) (fun vs zs => vs ++ zs.reverse) tNil tk) ρ P := fun hs σ H p s Q w =>
  h hs σ H p s _ fun vs H1 ds e1 p1 rs ⟨hl, q⟩ => ⟨Nat.zero_le _, fun a n => mkv_core p1 (w.back e1) rs.reverse (by rw [List.length_reverse]; exact hl) q a n⟩
theorem e_xfl {newId : String} {bm : List Value} {f : Str} {te : TE} {ρ : List (Option D)} (h : E1 z te ρ fun d => ∃ C fs v, d = .exc C fs ∧ (∃ newId bm, OxB K C newId bm) ∧ PySem.W.findIn K (.ref C) f = some none ∧ fs.lookup f = some v ∧ P v) : E1 z (tXfl K newId bm f te) ρ P := fun hs σ H p s Q w =>
  h hs σ H p s _ fun x H1 d e1 p1 rx ⟨C, fs, v, ed, T, hno, hl, q⟩ => by
    subst ed
    cases rx with
    | exc h1 h2 h3 =>
      obtain ⟨u, hu, r⟩ := h3.lookup hl
      exact ⟨_, C, _, _, u, rfl, T, hno, hid_sub _ _ h1, hid_sub _ _ h2, hu, (w.back e1).here p1 r q⟩
    | exc0 h1 => simp at hl
theorem o_isX {ds : List D} (h : ∃ C fs c cv b, ds = [.exc C fs, .raw c] ∧ ExcC K C ∧ (∀ u, RelV c u → u = cv) ∧ PySem.W.kitOne K (.ref C) cv = some b ∧ P (.bl b)) : OC z (rIsX K) ds P := fun hs xs H p rs Q w => by
  obtain ⟨C, fs, c, cv, b, rfl, T, hc, hk, q⟩ := h
  cases rs with
  | cons r rs =>
    cases rs with
    | cons r2 rs =>
      cases rs
      cases r2
      cases r with
      | exc h1 h2 h3 => exact ⟨_, C, _, c, cv, b, rfl, T, hid_sub _ _ h1, fun d e => by cases e; exact ⟨_, hid_sub _ _ h2⟩, hc, hk, w.here p (.bl _) q⟩
      | exc0 h1 => exact ⟨_, C, none, c, cv, b, rfl, T, hid_sub _ _ h1, fun d e => (nomatch e), hc, hk, w.here p (.bl _) q⟩
end
end PD

set_option Elab.async false
set_option linter.all false
set_option maxRecDepth 100000
set_option maxHeartbeats 4000000
/-! PD7: a def's promise in data; calls; new lists. -/
namespace PD
open PySem PySem.Spec PyProof.Rows L2
/-- n arguments that stand for data under Pre; the answer stands for data under Post; all but the pot is kept -/
def spD (n : Nat) (Pre : List D → Prop) (Post : List D → D → Prop) : Sp := fun vs H Q _ => ∃ z hs ds, ds.length = n ∧ Pre ds ∧ Ok z hs H ∧ RA z (hid z hs H) vs ds ∧ Wd z hs H (Post ds) Q
theorem spD_len {n : Nat} {Pre : List D → Prop} {Post : List D → D → Prop} (vs : List V) (H : Hp) (Q : VK) (E : XK) (h : spD n Pre Post vs H Q E) : vs.length = n := by
  obtain ⟨z, hs, ds, hl, _, _, r, _⟩ := h
  rw [r.length, hl]
def startS (N : List Str) (ds : List D) : List Sl := ds.map Sl.va ++ List.replicate (N.length - ds.length) .un
theorem ss_start {z : Zp} {G H : Hp} {N : List Str} {ds : List D} {vs : List V} (h : RA z G vs ds) : SS z G H (L2.start N vs) (startS N ds) [] := by
  have uns : ∀ n, SS z G H (List.replicate n none) (List.replicate n Sl.un) [] := fun n => by
    induction n with
    | zero => exact .nil
    | succ n ih => exact .un ih
  have app : ∀ {ds : List D} {vs : List V} {σ : L2.St} {ρ : List Sl}, SS z G H σ ρ [] → RA z G vs ds → SS z G H (vs.map some ++ σ) (ds.map Sl.va ++ ρ) [] := by
    intro ds
    induction ds with
    | nil => intro vs σ ρ g h; cases h; exact g
    | cons d ds ih => intro vs σ ρ g h; cases h with | cons h1 h2 => exact .va h1 (ih g h2)
  unfold L2.start startS
  rw [h.length]
  exact app (uns _) h
theorem reads_of {n : Nat} {Pre : List D → Prop} {Post : List D → D → Prop} {N : List Str} {t : TS}
    (h : ∀ z ds, ds.length = n → Pre ds → X1 z t (startS N ds) { nx := fun _ => Post ds .non, rt := Post ds }) {vs : List V} {H : Hp} {Q : VK} {E : XK} (q : spD n Pre Post vs H Q E) :
    t { nx := fun _ H' => Q .non H', rt := Q } (L2.start N vs) H := by
  obtain ⟨z, hs, ds, hl, hp, p, r, w⟩ := q
  have e0 : ∀ a, hsO hs [] a → hs a := fun a h => h.elim id (fun h => by cases h)
  have st : St1 z hs H (L2.start N vs) (startS N ds) [] := { ok := p, nd := List.nodup_nil, off := (fun _ h => by cases h), ss := ss_start (RA.mono (hid_less e0) _ _ r) }
  exact h z ds hl hp hs _ H [] st _ ⟨fun σ' H' ρ' O' e' s' q => w _ H' _ (fun a o n k => e'.keep a o n (fun h => by cases h) k) s'.ok .non q, fun v H' d k p' r' q => w v H' d (fun a o n e => k a o n (fun h => by cases h) e) p' r' q, fun _ _ _ _ _ _ q => q.elim, fun _ _ _ _ _ _ q => q.elim, fun _ _ _ _ _ _ _ _ _ q => q.elim⟩
section
variable {P : Program} {w : World} {K : PySem.W.Frag} {mg : Str → Option Value} {base : Heap} {k : Nat} {f : Addr} {x qual : Str} {st : Stmt} {fd : FuncData} {N ps : List Str} {n : Nat} {Pre : List D → Prop} {Post : List D → D → Prop}
theorem okD (F : Fun K x qual st f fd) (S : FnScope N ps (defScope st)) (hn : n = ps.length)
    (h : ∀ (cdv : Value) (A : Around) (outer : List Env) (s : Shared) (H : Hp) (E : XK), Room k (A.deeper (envOfC qual (defScope st) s.heap.objs.size f cdv)) →
      ∃ t, PSs (cxOf CX0 P w K mg base N qual (defScope st) f cdv A outer s H E).nox (defBody st) t ∧ ∀ z ds, ds.length = n → Pre ds → X1 z t (startS N ds) { nx := fun _ => Post ds .non, rt := Post ds }) :
    FnOk P w K mg base CX0 (k + 1) f fd ps (spD n Pre Post) := by
  refine F.ok S (fun vs H Q E q => by rw [spD_len vs H Q E q, hn]) (fun cdv A outer s H vs Q E hr q => ?_)
  obtain ⟨t, h1, h2⟩ := h cdv A outer s H E hr
  exact ⟨t, h1, reads_of h2 q⟩
theorem okDG (F : Fun K x qual st f fd) (S : FnScope N ps (defScope st)) (hn : n = ps.length)
    (h : ∀ (cdv : Value) (A : Around) (outer : List Env) (s : Shared) (H : Hp) (E : XK), A.guards = some [] → Room k (A.deeper (envOfC qual (defScope st) s.heap.objs.size f cdv)) →
      ∃ t, PSs (cxOf CX0 P w K mg base N qual (defScope st) f cdv A outer s H E).nox (defBody st) t ∧ ∀ z ds, ds.length = n → Pre ds → X1 z t (startS N ds) { nx := fun _ => Post ds .non, rt := Post ds }) :
    FnG P w K mg base CX0 (k + 1) f fd ps (spD n Pre Post) := by
  refine okG F S (fun vs H Q E q => by rw [spD_len vs H Q E q, hn]) (fun cdv A outer s H vs Q E hg hr q => ?_)
  obtain ⟨t, h1, h2⟩ := h cdv A outer s H E hg hr
  exact ⟨t, h1, reads_of h2 q⟩
end
section
variable {z : Zp} {P : D → Prop} {K : PySem.W.Frag} {ρ : List (Option D)} {te ta tb : TE} {tr : TA} {out : Out} {r : List Sl}
theorem e_call {n : Nat} {Pre : List D → Prop} {Post : List D → D → Prop} {E : XK} (h : EA z tr ρ fun ds => ds.length = n ∧ Pre ds ∧ ∀ d, Post ds d → P d) : E1 z (tCall (spD n Pre Post) [] E tr) ρ P := fun hs σ H p s Q w =>
  h hs σ H p s _ fun vs H1 ds e1 p1 rs ⟨hn, hp, hq⟩ => ⟨z, hs, ds, hn, hp, p1, by rw [List.append_nil]; exact rs, (w.back e1).imp hq⟩
/-- a new list -/
def E1N (z : Zp) (te : TE) (ρ : List (Option D)) (P : List D → Prop) : Prop := ∀ hs σ H, Ok z hs H → SR z (hid z hs H) σ ρ → ∀ Q : VK,
  (∀ p vs H' ds, ExZ z H H' → Ok z hs H' → H p = none → H' p = some (.lst vs) → RA z (hid z (fun a => hs a ∨ a = p) H') vs ds → P ds → Q (.ref p) H') → te σ H Q
theorem new_n {hs : Addr → Prop} {H H1 : Hp} {Q : VK} {PL : List D → Prop} (w : ∀ p vs H' ds, ExZ z H H' → Ok z hs H' → H p = none → H' p = some (.lst vs) → RA z (hid z (fun a => hs a ∨ a = p) H') vs ds → PL ds → Q (.ref p) H')
    (e : ExZ z H H1) (p1 : Ok z hs H1) {vs : List V} {ds : List D} (rs : RA z (hid z hs H1) vs ds) (q : PL ds) (p : Addr) (n : H1 p = none) : Q (.ref p) (upd H1 p (.lst vs)) := by
  obtain ⟨n1, n2⟩ := p1.off n
  have n0 : H p = none := by
    cases h : H p with
    | none => rfl
    | some o => rw [e p o n1 h] at n; cases n
  refine w p vs _ ds (e.trans (ExZ.new n)) (p1.new n) n0 upd_same (RA.mono (fun a o h => ?_) _ _ rs) q
  obtain ⟨m1, m2, h⟩ := hid_some h
  have na : a ≠ p := ne_of_none h n
  rw [hid_ne m1 (by rintro (q | q); exact m2 q; exact na q), upd_ne na]
  exact h
theorem n_lst {PL : List D → Prop} (h : EA z tr ρ fun ds => ds.length ≤ sizeLine ∧ PL ds) : E1N z (tLst tr) ρ PL := fun hs σ H p s Q w =>
  h hs σ H p s _ fun xs H1 ds e1 p1 rs ⟨hl, q⟩ => ⟨by rw [rs.length]; exact hl, new_n w e1 p1 rs q⟩
theorem n_cat {PL : List D → Prop} (h : E1 z ta ρ fun d => E1 z tb ρ fun e => ∃ a b, d = .lst a ∧ e = .lst b ∧ a.length + b.length ≤ sizeLine ∧ PL (a ++ b)) : E1N z (tOp rCat ta tb) ρ PL := fun hs σ H p s Q w =>
  h hs σ H p s _ fun x H1 d e1 p1 rx h1 => h1 hs σ H1 p1 (s.mono (exz_hid e1)) _ fun y H2 e e2 p2 ry ⟨a, b, ea, eb, hl, q⟩ => by
    subst ea
    subst eb
    have rx' := R.mono (exz_hid e2) _ _ rx
    cases rx' with
    | lst h1 h2 =>
      cases ry with
      | lst g1 g2 => exact ⟨_, _, _, _, rfl, rfl, hid_sub _ _ h1, hid_sub _ _ g1, by rw [h2.length, g2.length]; exact hl, new_n w (e1.trans e2) p2 (h2.append g2) q⟩
theorem x_ownN {i : Nat} (hi : i < r.length) (h : E1N z te (r.map Sl.dat) fun ds => out.nx (r.set i (.ow ds))) : X1 z (tAsg te (gName i)) r out := fun hs σ H O s F w =>
  h (hsO hs O) σ H s.okO s.ss.dat _ fun p vs H1 ds e1 p1 n hp rs q => by
    obtain ⟨n1, n2⟩ := s.okO.off n
    have n3 : p ∉ O := fun q => n2 (.inr q)
    have s1 : St1 z hs H1 σ r O := s.next e1 (okO_ok p1)
    have less : ∀ a, (hsO hs O a ∨ a = p) → hsO hs (p :: O) a := fun a h => by
      rcases h with (h | h) | h
      · exact .inl h
      · exact .inr (List.mem_cons_of_mem _ h)
      · exact .inr (by rw [h]; exact List.mem_cons_self ..)
    have more : ∀ a, hsO hs (p :: O) a → (hsO hs O a ∨ a = p) := fun a h => by
      rcases h with h | h
      · exact .inl (.inl h)
      · rcases List.mem_cons.mp h with h | h
        · exact .inr h
        · exact .inl (.inr h)
    have key : Ex (hid z (hsO hs O) H) (hid z (hsO hs (p :: O)) H1) := fun a o h => by
      obtain ⟨m1, m2, h⟩ := hid_some h
      have na : a ≠ p := ne_of_none h n
      rw [hid_ne m1 (fun q => (more a q).elim m2 na)]
      exact e1 a o m1 h
    obtain ⟨O', sub, s3⟩ := s1.setOw (p := p) n1 (fun q => n2 (.inl q)) n3 hp (RA.mono (hid_less more) _ _ rs) (s.ss.mono key fun a ha o ho => e1 a o (s.off a ha).1 ho) i hi
    refine w.nx _ _ _ O' ⟨fun a o m _ h => e1 a o m h, fun a ha => ?_⟩ s3 q
    rcases sub a ha with rfl | h
    · exact .inr ⟨n1, n⟩
    · exact .inl h
end
end PD

set_option Elab.async false
set_option linter.all false
set_option maxRecDepth 100000
set_option maxHeartbeats 4000000
/-! PD8: small dicts; tests of truth by data; keywords' bindings; bounds of texts. -/
namespace PD
open PySem PySem.Spec PyProof.Rows L2
section
variable {z : Zp} {P : D → Prop} {K : PySem.W.Frag} {ρ : List (Option D)} {te ta tb : TE} {tr : TA} {out : Out} {r : List Sl}
theorem e_dnew (q : P (.dct [])) : E1 z tDNewK ρ P := fun hs σ H p s Q w => fun a n => new_w w p n (fun H' h1 h2 => .dct h1 .nil) q
theorem e_disp1 {k : Str} {i : Int} (q : P (.dct [(.inr k, .int i)])) : E1 z (tDisp [(tC (.str k), tC (.int i))]) ρ P := fun hs σ H p s Q w => fun a n => by
  refine ⟨upd_same, [(.inr k, .int i)], rfl, by simp, ?_⟩
  have e : upd (upd H a (.dK [])) a (.dK (mergeK [] [((.inr k : Key), V.int i)])) = upd H a (.dK [((.inr k : Key), V.int i)]) := upd_upd
  rw [e]
  exact new_w w p n (fun H' h1 h2 => .dct h1 (.cons (.int i) .nil)) q
/-- a flat thing in a tuple or list of flat things -/
def vd : D → Option V
  | .non => some .non
  | .bl b => some (.bl b)
  | .int i => some (.int i)
  | .str x => some (.str x)
  | _ => none
theorem vd_is {H : Hp} {v u : V} {d : D} (h : vd d = some u) (r : R z H v d) : v = u := by
  cases d <;> first | (cases h; cases r; rfl) | cases h
def vdA : List D → Option (List V)
  | [] => some []
  | d :: ds => (vd d).bind fun v => (vdA ds).bind fun vs => some (v :: vs)
theorem vdA_is {H : Hp} : ∀ {ds : List D} {vs us : List V}, vdA ds = some us → RA z H vs ds → vs = us
  | [], _, _, h, r => by cases r; cases h; rfl
  | d :: ds, _, _, h, r => by
    cases r with
    | cons r1 r2 =>
      obtain ⟨v, h1, h⟩ := Option.bind_eq_some_iff.mp h
      obtain ⟨vs, h2, h⟩ := Option.bind_eq_some_iff.mp h
      cases h
      rw [vd_is h1 r1, vdA_is h2 r2]
theorem o_in {neg : Bool} {d e : D} (h : ∃ ds u us, (e = .lst ds ∨ e = .tup ds) ∧ vd d = some u ∧ vdA ds = some us ∧ flatV u = true ∧ us.all flatV = true ∧ P (.bl (if neg then !inV u us else inV u us))) : O2 z (rIn K neg) d e P := fun hs x y H p rx ry Q w => by
  obtain ⟨ds, u, us, he, h1, h2, f1, f2, q⟩ := h
  have ex := vd_is h1 rx
  subst ex
  rcases he with rfl | rfl
  · cases ry with
    | lst g1 g2 =>
      have e2 := vdA_is h2 g2
      subst e2
      exact ⟨_, _, rfl, .inl (.inl (.inl (hid_sub _ _ g1))), f1, f2, w.here p (.bl _) q⟩
  · cases ry with
    | tup g1 g2 =>
      have e2 := vdA_is h2 g2
      subst e2
      exact ⟨_, _, rfl, .inr (.inl (.inl (hid_sub _ _ g1))), f1, f2, w.here p (.bl _) q⟩
end
/-! ### keywords in the parameters' reversed order -/
def kgr {α : Type} (n : Nat) (us ws : List α) : List α := match us with
  | [a] => if ws.length = n then a :: ws.reverse else []
  | _ => []
theorem kgr_rel {n : Nat} {vs : List V} {us : List Value} {zs : List V} {ws : List Value} (r : Vals vs us) (q : Vals zs ws) : Vals (kgr n vs zs) (kgr n us ws) := by
  have rev : ∀ {zs : List V} {ws : List Value}, Vals zs ws → Vals zs.reverse ws.reverse := by
    intro zs ws q
    induction q with
    | nil => exact .nil
    | cons h _ ih => simp only [List.reverse_cons]; exact ih.append (.cons h .nil)
  have hl := q.length
  cases r with
  | nil => exact .nil
  | cons h t =>
    cases t with
    | nil =>
      show Vals (if zs.length = n then _ else []) (if ws.length = n then _ else [])
      by_cases c : zs.length = n
      · rw [if_pos c, if_pos (by rw [← hl]; exact c)]
        exact .cons h (rev q)
      · rw [if_neg c, if_neg (by rw [← hl]; exact c)]
        exact .nil
    | cons _ _ => exact .nil
theorem kgr_len {α : Type} {n : Nat} {us ws : List α} (h : (kgr n us ws).length = n + 1) : ∃ a, us = [a] ∧ ws.length = n := by
  unfold kgr at h
  split at h
  · rename_i a
    split at h
    · rename_i c
      exact ⟨a, rfl, c⟩
    · simp at h
  · simp at h
theorem e_mkvR {C : Addr} {fs : List Str} {tk : TA} {z : Zp} {P : D → Prop} {ρ : List (Option D)} {n : Nat} (h : EA z tk ρ fun ds => ds.length = fs.length ∧ ds.length = n ∧ P (.exc C (fs.zip ds.reverse).reverse)) : E1 z (tMkV C (spXI C fs) (kgr n) tNil tk) ρ P := fun hs σ H p s Q w =>
  h hs σ H p s _ fun vs H1 ds e1 p1 rs ⟨hl, hn, q⟩ => ⟨Nat.zero_le _, fun a na => by
    have e : kgr n [V.ref a] vs = .ref a :: vs.reverse := if_pos (by rw [rs.length, hn])
    rw [e]
    exact mkv_core p1 (w.back e1) rs.reverse (by rw [List.length_reverse]; exact hl) q a na⟩
/-! ### bounds of shown data -/
structure Small (d : D) : Prop where
  p : isPy d = true
  s : (py d).showable = true
  l : (py d).shown.length ≤ 1000
  n : dp d ≤ 10
theorem smallA {ds : List D} (h : ∀ d ∈ ds, Small d) : isPyA ds = true ∧ PyData.showableAll (pyA ds) = true ∧ ((PyData.shownAll (pyA ds)).map (·.length)).sum ≤ 1000 * ds.length ∧ (PyData.shownAll (pyA ds)).length = ds.length ∧ dpA ds ≤ 10 := by
  induction ds with
  | nil => exact ⟨rfl, rfl, Nat.le_refl _, rfl, Nat.zero_le _⟩
  | cons d ds ih =>
    obtain ⟨i1, i2, i3, i4, i5⟩ := ih fun e he => h e (List.mem_cons_of_mem _ he)
    have q := h d (List.mem_cons_self ..)
    refine ⟨?_, ?_, ?_, ?_, ?_⟩
    · simp only [isPyA, q.p, i1, Bool.and_self]
    · simp only [pyA, PyData.showableAll, q.s, i2, Bool.and_self]
    · simp only [pyA, PyData.shownAll, List.map_cons, List.sum_cons, List.length_cons]
      have := q.l
      omega
    · simp only [pyA, PyData.shownAll, List.length_cons, i4]
    · simp only [dpA]
      have := q.n
      omega
/-- repr of a list of small things -/
theorem o_reprL {z : Zp} {P : D → Prop} {xs : List D} (hs : ∀ d ∈ xs, Small d) (hl : xs.length ≤ 1000) (q : P (.str (py (.lst xs)).shown)) : OC z rRepr [.lst xs] P := by
  obtain ⟨i1, i2, i3, i4, i5⟩ := smallA hs
  refine o_repr ⟨_, rfl, by simpa only [isPy] using i1, by simpa only [py, PyData.showable] using i2, ?_, by simp only [dp]; omega, q⟩
  simp only [py, PyData.shown]
  have := listText_len_le (PyData.shownAll (pyA xs))
  rw [sizeLine_eq]
  omega
theorem o_reprS {z : Zp} {P : D → Prop} {d : D} (hs : Small d) (q : P (.str (py d).shown)) : OC z rRepr [d] P :=
  o_repr ⟨_, rfl, hs.p, hs.s, Nat.le_trans hs.l (by rw [sizeLine_eq]; decide), Nat.le_trans hs.n (by decide), q⟩
/-! ### lists of truths compared -/
theorem py_bools (bs : List Bool) : py (.lst (bs.map D.bl)) = .list (bs.map PyData.bool) := by
  have : ∀ bs : List Bool, pyA (bs.map D.bl) = bs.map PyData.bool := fun bs => by
    induction bs with
    | nil => rfl
    | cons b bs ih => simp only [List.map_cons, pyA, py, ih]
  simp only [py, this]
theorem isPy_bools (bs : List Bool) : isPy (.lst (bs.map D.bl)) = true := by
  have : ∀ bs : List Bool, isPyA (bs.map D.bl) = true := fun bs => by
    induction bs with
    | nil => rfl
    | cons b bs ih => simp only [List.map_cons, isPyA, isPy, ih, Bool.and_self]
  simp only [isPy, this]
theorem can_bools (bs : List Bool) : (py (.lst (bs.map D.bl))).canLay0 = true := by
  rw [py_bools]
  have h1 : ∀ bs : List Bool, PyData.canLayAll0 (bs.map PyData.bool) = true := fun bs => by
    induction bs with
    | nil => rfl
    | cons b bs ih => simp only [List.map_cons, PyData.canLayAll0, PyData.canLay0, ih, Bool.and_self]
  simp only [PyData.canLay0, h1]
theorem shaped_bools (bs : List Bool) : SeqAt.shaped (py (.lst (bs.map D.bl))) = true := by
  rw [py_bools]
  have h1 : ∀ bs : List Bool, PyData.canLayAll0 (bs.map PyData.bool) = true := fun bs => by
    induction bs with
    | nil => rfl
    | cons b bs ih => simp only [List.map_cons, PyData.canLayAll0, PyData.canLay0, ih, Bool.and_self]
  have h2 : ∀ bs : List Bool, PyData.depthAll (bs.map PyData.bool) = 0 := fun bs => by
    induction bs with
    | nil => rfl
    | cons b bs ih => simp only [List.map_cons, PyData.depthAll, PyData.depth, ih, Nat.max_self]
  unfold SeqAt.shaped
  simp only [PyData.canLay0, h1, PyData.depth, h2, Bool.true_and]
  decide
theorem o_neB {z : Zp} {P : D → Prop} {K : PySem.W.Frag} {d e : D} (h : ∃ bs : List Bool, d = .lst (bs.map D.bl) ∧ e = .lst (bs.map D.bl) ∧ P (.bl false)) : O2 z (rNeD K) d e P := by
  obtain ⟨bs, rfl, rfl, q⟩ := h
  refine o_neD (isPy_bools bs) (isPy_bools bs) (shaped_bools bs) (shaped_bools bs) ?_
  rw [SeqAt.eqv_refl _ (can_bools bs)]
  exact q
end PD

set_option Elab.async false
set_option linter.all false
set_option maxRecDepth 100000
set_option maxHeartbeats 4000000
/-! WS: sets of words. -/
namespace WS
open PySem PySem.Spec PyProof.Rows L2
section
variable {P : Program} {w : World} {A : Around} {E : Value → Shared → Prop} {s : Shared}
/-- the word k stands at b -/
abbrev Wk (P : Program) (w : World) (h : Heap) (k : List Str) (b : Addr) : Prop := IsTupleKey (strKind P w) h k b
abbrev wh (P : Program) (w : World) (k : List Str) : Int := tupleKeyHash (strKind P w) k
def row (P : Program) (w : World) (p : Addr × List Str) : Int × Value := (wh P w p.2, .ref p.1)
theorem letters {k : List Str} {vs : List Value} (h : ItemsAre (strKind P w) k vs) : ∀ v ∈ vs, ∃ x t, v = Value.str x t := by
  induction h with
  | nil => exact fun v hv => nomatch hv
  | @cons k0 v0 ks vs h1 _ ih =>
    intro v hv
    cases hv with
    | head => obtain ⟨t, e⟩ := Value.isStrOf_shape h1; exact ⟨_, t, e⟩
    | tail _ hv => exact ih v hv
theorem Wk.keep {h h' : Heap} {k : List Str} {b : Addr} (x : Wk P w h k b) (e : ∀ o, h.get? b = some o → h'.get? b = some o) : Wk P w h' k b := by
  obtain ⟨o, items, n, ho, q⟩ := x
  exact ⟨o, items, n, e o ho, q⟩
theorem Wk.beside {h h' : Heap} {k : List Str} {a b : Addr} {o : Obj} {es : Array (Int × Value)} {ep : Nat} {t : SetTable} (x : Wk P w h k b) (ho : h.get? a = some o) (hd : o.data = .set es ep t) (sb : Heap.SameBut a h h') : Wk P w h' k b := by
  refine x.keep fun o' e => (sb.2 b ?_).trans e
  intro eb
  obtain ⟨o2, items, n, e2, _, d2, _⟩ := x
  rw [eb, ho] at e2
  cases e2
  rw [hd] at d2
  cases d2
theorem no_class {k : List Str} {b : Addr} {Q : Bool → Shared → Prop} (x : Wk P w s.heap k b) (h : Q false s) : wpAny (model P w) A (ofAClassStatement 8 (.ref b)) Q E s := by
  have ty := x.typeIs
  obtain ⟨o, items, n, ho, _, hd, hi⟩ := x
  have all := letters hi
  have e0 : (("tuple" : String) == "tuple") = true := by decide
  unfold ofAClassStatement
  refine wpAny_bind (wpAny_typeOf ty ?_)
  simp only [e0, if_true, Bool.not_true, Bool.false_eq_true, if_false]
  try refine wpAny_bind (wpAny_pure ?_)
  try simp only [Bool.not_true, Bool.false_eq_true, if_false]
  refine wpAny_bind (m := seqItems? (.ref b)) (wpAny_seqItems ho hd ?_)
  dsimp only
  refine wpAny_bind ?_
  show wpAny _ _ (forIn items _ _) _ _ s
  rw [← Array.forIn_toList]
  refine wpAny_forIn_list _ (fun rest r s' => s' = s ∧ r.1 = none ∧ ∀ v ∈ rest, ∃ x t, v = Value.str x t) _ (fun v rest r s' st => ?_) (fun r s' st => ?_) _ _ ⟨rfl, rfl, all⟩
  · obtain ⟨rfl, hr, al⟩ := st
    obtain ⟨x, t, rfl⟩ := al v List.mem_cons_self
    refine wpAny_bind (wpAny_pure ?_)
    exact wpAny_pure ⟨rfl, rfl, fun u hu => al u (List.mem_cons_of_mem _ hu)⟩
  · obtain ⟨r1, r2⟩ := r
    obtain ⟨rfl, hr, _⟩ := st
    cases hr
    exact wpAny_pure h
/-- by value or not: no matter -/
theorem by_value {k : List Str} {b : Addr} {Q : Bool → Shared → Prop} (x : Wk P w s.heap k b) (h : ∀ v, Q v s) : wpAny (model P w) A (hashByValue 8 (.ref b)) Q E s := by
  have ty := x.typeIs
  obtain ⟨o, items, n, ho, _, hd, hi⟩ := x
  have all := letters hi
  unfold hashByValue
  refine wpAny_bind (wpAny_specialOf ty F.slot_tuple_hash.lookup ?_)
  refine wpAny_bind (m := seqItems? (.ref b)) (wpAny_seqItems ho hd ?_)
  refine wpAny_bind ?_
  show wpAny _ _ (forIn items _ _) _ _ s
  rw [← Array.forIn_toList]
  refine wpAny_forIn_list _ (fun rest r s' => s' = s ∧ (∀ v ∈ rest, ∃ x t, v = Value.str x t)) _ (fun v rest r s' st => ?_) (fun r s' st => ?_) _ _ ⟨rfl, all⟩
  · obtain ⟨rfl, al⟩ := st
    obtain ⟨x, t, rfl⟩ := al v List.mem_cons_self
    refine wpAny_bind (wpAny_pure ?_)
    exact wpAny_pure (wpAny_pure (h _))
  · obtain ⟨r1, r2⟩ := r
    obtain ⟨rfl, _⟩ := st
    cases r1 with
    | none => exact wpAny_pure (h _)
    | some v => exact wpAny_pure (h _)
theorem unseen {k : List Str} {b : Addr} {Q : Bool → Shared → Prop} (x : Wk P w s.heap k b) {ys : List Value} (hy : ∀ y ∈ ys, ∃ k' c, y = Value.ref c ∧ Wk P w s.heap k' c) (h : Q false s) : wpAny (model P w) A (searchCouldBeSeen (.ref b) ys) Q E s := by
  unfold searchCouldBeSeen
  refine wpAny_bind ?_
  refine wpAny_forIn_list _ (fun rest r s' => s' = s ∧ r.1 = none ∧ ∀ y ∈ rest, ∃ k' c, y = Value.ref c ∧ Wk P w s.heap k' c) _ (fun v rest r s' st => ?_) (fun r s' st => ?_) _ _ ⟨rfl, rfl, hy⟩
  · obtain ⟨rfl, hr, al⟩ := st
    obtain ⟨k', c, rfl, hc⟩ := al v List.mem_cons_self
    have al' : ∀ y ∈ rest, ∃ k' c, y = Value.ref c ∧ Wk P w s'.heap k' c := fun y hy => al y (List.mem_cons_of_mem _ hy)
    dsimp only
    by_cases hv : (b == c || (carriedByValue (.ref b) && carriedByValue (.ref c))) = true
    · exact wp_if_pos hv (wpAny_pure ⟨rfl, rfl, al'⟩)
    · refine wp_if_neg hv (wpAny_bind (wpAny_eqIsQuiet_tuple x ?_))
      simp only [Bool.not_true, Bool.false_eq_true, if_false]
      refine wpAny_bind (wpAny_eqIsQuiet_tuple hc ?_)
      simp only [Bool.not_true, Bool.false_eq_true, if_false]
      refine wpAny_bind (no_class x ?_)
      simp only [Bool.false_eq_true, if_false]
      refine wpAny_bind (no_class hc ?_)
      simp only [Bool.false_eq_true, if_false]
      exact wpAny_pure ⟨rfl, rfl, al'⟩
  · obtain ⟨r1, r2⟩ := r
    obtain ⟨rfl, hr, _⟩ := st
    cases hr
    exact wpAny_pure h

/-! ### the table of a set of words -/
structure Tb (P : Program) (w : World) (h : Heap) (a : Addr) (L : List (Addr × List Str)) (es : Array (Int × Value)) (ep : Nat) (t : SetTable) : Prop where
  here : ∃ o, h.get? a = some o ∧ o.ExactSet ∧ o.data = .set es ep t
  rows : es.toList = L.map (row P w)
  tab : TabOk t (L.map fun p => wh P w p.2)
  one : (L.map (·.2)).Nodup
  are : ∀ p ∈ L, Wk P w h p.2 p.1
  led : w.params.followText "set-order" = true ∨ t.led = true
  room : L.length * 5 < t.mask * 3
  few : L.length < 64
variable {a : Addr} {L : List (Addr × List Str)} {es : Array (Int × Value)} {ep : Nat} {t : SetTable}
theorem rows_len (h : es.toList = L.map (row P w)) : es.size = L.length := by simpa using congrArg List.length h
theorem fits_of (h1 : t.place.size = es.size) (h2 : t.dummies = #[]) (h3 : es.size ≤ t.mask) : t.fits es.size = true := by
  unfold SetTable.fits SetTable.fill
  rw [h2, Bool.and_eq_true, beq_iff_eq, decide_eq_true_eq]
  exact ⟨h1, by show t.place.size + 0 ≤ t.mask; omega⟩
theorem Tb.place_len (R : Tb P w s.heap a L es ep t) : t.place.toList.length = L.length := by simpa using R.tab.sz
theorem Tb.fits (R : Tb P w s.heap a L es ep t) : t.fits es.size = true := by
  have h1 := rows_len R.rows
  have h2 := R.place_len
  rw [Array.length_toList] at h2
  exact fits_of (by omega) R.tab.dm (by have := R.room; omega)
theorem Tb.row_at (R : Tb P w s.heap a L es ep t) {i : Nat} {p : Addr × List Str} (h : L[i]? = some p) : es[i]? = some (wh P w p.2, .ref p.1) := by
  rw [← Array.getElem?_toList, R.rows, List.getElem?_map, h]
  rfl
abbrev pr (t : SetTable) (h : Int) (c : Nat) : SetTable.Probe := nth t.mask (runAt t.mask (SetTable.bits h % (t.mask + 1)) (SetTable.bits h)) c
theorem pr_on (t : SetTable) (h : Int) (c q : Nat) : nth t.mask (pr t h c) q = pr t h (c + q) := (nth_add t.mask c _ q).symm
theorem pr_plain (t : SetTable) (h : Int) (c : Nat) : (pr t h c).dummy = none := by
  have : ∀ (n : Nat) (p : SetTable.Probe), p.dummy = none → (nth t.mask p n).dummy = none := fun n => by
    induction n with
    | zero => exact fun p h => h
    | succ n ih =>
      intro p h
      refine ih (adv t.mask p) ?_
      unfold adv
      split <;> exact h
  exact this c _ rfl
/-- looking for k, from the way's c-th place on; the first free one is its K-th -/
theorem seek (R : Tb P w s.heap a L es ep t) {x : Addr} {k : List Str} (hx : Wk P w s.heap k x) (hu : A.units < cLine) {K : Nat} (hT : K < 10 * SetTable.turns t.mask) (hK : way t.mask (wh P w k) K ∉ t.place.toList) (hb : ∀ c, c < K → way t.mask (wh P w k) c ∈ t.place.toList)
    {Q : SetFound → Shared → Prop} (yes : k ∈ L.map (·.2) → Q (.there none) s) (no : k ∉ L.map (·.2) → Q (.free (way t.mask (wh P w k) K) false) s) :
    ∀ (f c : Nat), c ≤ K → K < c + f → (∀ (i : Nat) (p : Addr × List Str), L[i]? = some p → p.2 = k → ∃ d, c ≤ d ∧ d < K ∧ t.place.toList[i]? = some (way t.mask (wh P w k) d)) → ∀ stand : Option SetTable.Probe, stand.getD (t.probeStart (wh P w k)) = pr t (wh P w k) c →
      wpAny (model P w) A (setSearchFrom a (.ref x) (wh P w k) true f stand) Q E s := by
  obtain ⟨o, ho, hex, hd⟩ := R.here
  have gave : ¬ t.gaveWay = true := by
    unfold SetTable.gaveWay
    rw [mask_odd R.tab.mok]
    decide
  intro f
  induction f with
  | zero => exact fun c h1 h2 => absurd h2 (by omega)
  | succ f ih =>
    intro c hc hf left stand hst
    rw [setSearchFrom_succ]
    refine wpAny_bind (wpAny_setState_of ho hd R.fits ?_)
    dsimp only
    refine wp_if_neg gave ?_
    try refine wpAny_bind (wpAny_pure ?_)
    have at_ : ∀ q, (nth t.mask (pr t (wh P w k) c) q).j = way t.mask (wh P w k) (c + q) := fun q => congrArg SetTable.Probe.j (pr_on t _ c q)
    have hashAt : ∀ (i : Nat) p, L[i]? = some p → (fun i => (es[i]?.map (·.1)).getD 0) i = wh P w p.2 := fun i p hp => by
      show (es[i]?.map (·.1)).getD 0 = _
      rw [R.row_at hp]
      rfl
    rcases go_spec t R.tab.ris R.tab.dm (fun i => (es[i]?.map (·.1)).getD 0) (wh P w k) (10 * SetTable.turns t.mask) (K - c) (pr t (wh P w k) c) (pr_plain t _ c) (by omega)
      (fun q hq => by rw [at_]; exact hb _ (by omega)) (by rw [at_, Nat.add_sub_cancel' hc]; exact hK) with ⟨q, i, hq, hi, hh, before, e⟩ | ⟨before, e⟩
    · rw [at_] at hi e
      rw [pr_on] at e
      have e' : t.probe (fun i => (es[i]?.map (·.1)).getD 0) (wh P w k) (stand.getD (t.probeStart (wh P w k))) = some (.candidate (way t.mask (wh P w k) (c + q)) i (pr t (wh P w k) (c + (q + 1)))) := by rw [hst]; exact e
      rw [e']
      dsimp only
      have hil : i < L.length := by
        have := (List.getElem?_eq_some_iff.mp hi).1
        rwa [R.place_len] at this
      obtain ⟨p, hp⟩ : ∃ p, L[i]? = some p := ⟨_, List.getElem?_eq_getElem hil⟩
      have hm := List.mem_of_getElem? hp
      have look : wpAny (model P w) A (searchRest a (.ref x) (wh P w k) true f es t (way t.mask (wh P w k) (c + q)) i (pr t (wh P w k) (c + (q + 1)))) Q E s := by
        unfold searchRest
        rw [R.row_at hp]
        dsimp only
        refine wpAny_bind (wpAny_holding (wpAny_eqBool_tuple hu (R.are p hm) hx (wpAny_bind (wpAny_setState_of ho hd R.fits ?_))))
        dsimp only
        by_cases hk : p.2 = k
        · exact wp_if_pos (by simp [hk]) (wpAny_pure (yes (List.mem_map.mpr ⟨p, hm, hk⟩)))
        · refine wp_if_neg (by simp [hk]) ?_
          try refine wpAny_bind (wpAny_pure ?_)
          have sl : t.slot (way t.mask (wh P w k) (c + q)) = .live i := slot_live R.tab.ris hi
          rw [sameMem]
          dsimp only
          simp only [if_true, sl, R.row_at hp]
          refine wpAny_bind (wpAny_isSame_ref_self (wpAny_bind (wpAny_pure ?_)))
          simp only [if_true]
          refine wp_if_neg (by simp [hk]) ?_
          refine ih (c + (q + 1)) (by omega) (by omega) (fun i0 p0 h0 k0 => ?_) _ rfl
          obtain ⟨d, d1, d2, d3⟩ := left i0 p0 h0 k0
          refine ⟨d, ?_, d2, d3⟩
          rcases Nat.lt_trichotomy d (c + q) with lt | eq | gt
          · exact absurd ((hashAt i0 p0 h0).trans (by rw [k0])) (before (d - c) i0 (by omega) (by rw [at_, Nat.add_sub_cancel' d1]; exact d3))
          · rw [eq] at d3
            have s0 := slot_live R.tab.ris d3
            rw [sl] at s0
            cases s0
            rw [hp] at h0
            cases h0
            exact absurd k0 hk
          · omega
      by_cases hl : t.led = true
      · refine wp_if_neg (by simp [hl]) ?_
        try refine wpAny_bind (wpAny_pure ?_)
        exact look
      · refine wp_if_pos (by simp [hl]) (wpAny_bind (unseen hx (fun y hy => ?_) ?_))
        · obtain ⟨e1, he1, rfl⟩ := List.mem_map.mp hy
          have he2 : e1 ∈ es.toList := by
            have : e1 ∈ es ∧ e1.1 = wh P w k := by simpa using he1
            simpa using this.1
          rw [R.rows] at he2
          obtain ⟨p2, hp2, rfl⟩ := List.mem_map.mp he2
          exact ⟨p2.2, p2.1, rfl, R.are p2 hp2⟩
        · refine wp_if_neg (by decide) ?_
          try refine wpAny_bind (wpAny_pure ?_)
          exact look
    · rw [at_, Nat.add_sub_cancel' hc] at e
      have e' : t.probe (fun i => (es[i]?.map (·.1)).getD 0) (wh P w k) (stand.getD (t.probeStart (wh P w k))) = some (.empty (way t.mask (wh P w k) K) none) := by rw [hst]; exact e
      rw [e']
      dsimp only
      refine wpAny_pure (no fun hm => ?_)
      obtain ⟨p0, m0, k0⟩ := List.mem_map.mp hm
      obtain ⟨i0, h0⟩ := List.getElem?_of_mem m0
      obtain ⟨d, d1, d2, d3⟩ := left i0 p0 h0 k0
      exact before (d - c) i0 (by omega) (by rw [at_, Nat.add_sub_cancel' d1]; exact d3) ((hashAt i0 p0 h0).trans (by rw [k0]))
theorem search (R : Tb P w s.heap a L es ep t) {x : Addr} {k : List Str} (hx : Wk P w s.heap k x) (hu : A.units < cLine) {Q : SetFound → Shared → Prop} (yes : k ∈ L.map (·.2) → Q (.there none) s)
    (no : ∀ K, k ∉ L.map (·.2) → way t.mask (wh P w k) K ∉ t.place.toList → (∀ c, c < K → way t.mask (wh P w k) c ∈ t.place.toList) → Q (.free (way t.mask (wh P w k) K) false) s) :
    wpAny (model P w) A (setSearch a (.ref x) (wh P w k) true) Q E s := by
  obtain ⟨K, hT, hK, hb⟩ := R.tab.first (by rw [List.length_map]; have := R.room; omega) (wh P w k)
  have big : 10 * SetTable.turns t.mask < 100000 := by
    unfold SetTable.turns
    rcases R.tab.mok with e | e | e <;> omega
  unfold setSearch
  refine seek R hx hu hT hK hb yes (fun n => no K n hK hb) 100000 0 (Nat.zero_le _) (by omega) (fun i p hp hk => ?_) none rfl
  have hil : i < t.place.toList.length := by
    rw [R.place_len]
    exact (List.getElem?_eq_some_iff.mp hp).1
  obtain ⟨d, d1, d2⟩ := R.tab.before hK (i := i) (h := wh P w k) (by rw [List.getElem?_map, hp, ← hk]; rfl) (List.getElem?_eq_getElem hil)
  exact ⟨d, Nat.zero_le _, d1, by rw [List.getElem?_eq_getElem hil, d2]⟩

/-! ### laid anew -/
theorem fmap_some {α β : Type} {f : α → Option β} {g : α → β} : ∀ {l : List α}, (∀ x ∈ l, f x = some (g x)) → l.filterMap f = l.map g
  | [], _ => rfl
  | x :: l, h => by rw [List.filterMap_cons_some (h x List.mem_cons_self), List.map_cons, fmap_some fun y hy => h y (List.mem_cons_of_mem _ hy)]
theorem fmap_all {α : Type} (L : List α) : (List.range L.length).filterMap (fun i => L[i]?) = L := by
  induction L with
  | nil => rfl
  | cons x l ih =>
    rw [List.length_cons, List.range_succ_eq_map]
    show x :: List.filterMap _ (List.map Nat.succ (List.range l.length)) = _
    rw [List.filterMap_map]
    exact congrArg (x :: ·) ih
theorem reorder {α : Type} (r : α → Int × Value) (L : List α) {es : Array (Int × Value)} (h : es.toList = L.map r) {order : Array Nat} (hp : order.toList.Perm (List.range L.length)) :
    ∃ L2 : List α, (order.filterMap (es[·]?)).toList = L2.map r ∧ L2.Perm L ∧ (L2.map fun p => (r p).1) = order.toList.map fun i => (es.map (·.1)).getD i 0 := by
  have at_ : ∀ i, es[i]? = (L[i]?).map r := fun i => by rw [← Array.getElem?_toList, h, List.getElem?_map]
  refine ⟨order.toList.filterMap (fun i => L[i]?), ?_, ?_, ?_⟩
  · rw [Array.toList_filterMap, List.map_filterMap]
    exact congrArg (fun f => List.filterMap f order.toList) (funext at_)
  · have := hp.filterMap (fun i => L[i]?)
    rwa [fmap_all] at this
  · rw [List.map_filterMap]
    refine fmap_some fun i hi => ?_
    have hl : i < L.length := List.mem_range.mp (hp.mem_iff.mp hi)
    have e1 : (es.map (·.1))[i]? = some (r L[i]).1 := by rw [Array.getElem?_map, at_, List.getElem?_eq_getElem hl]; rfl
    rw [List.getElem?_eq_getElem hl, Array.getD_eq_getD_getElem?, e1]
    rfl
theorem relay {o : Obj} (ho : s.heap.get? a = some o) (hex : o.ExactSet) (hd : o.data = .set es ep t) (rows : es.toList = L.map (row P w)) (sz : t.place.size = es.size) (dm : t.dummies = #[]) (fl : es.size ≤ t.mask) (one : (L.map (·.2)).Nodup) (are : ∀ p ∈ L, Wk P w s.heap p.2 p.1)
    (led : w.params.followText "set-order" = true ∨ t.led = true) (few : L.length < 64) {wanted M : Nat} (hw : SetTable.sizeAbove wanted - 1 = M) (hM : MaskOk M) (hw2 : SetTable.sizeAbove wanted ≤ 128) (hn : L.length * 5 < M * 3) {Q : Unit → Shared → Prop}
    (hQ : ∀ h' L' es' ep' t', Heap.SameBut a s.heap h' → Tb P w h' a L' es' ep' t' → L'.Perm L → Q () { s with heap := h' }) : wpAny (model P w) A (setRelay a wanted) Q E s := by
  have sl := rows_len rows
  obtain ⟨t', order, e, hp, T, em, el, _, _⟩ := relaid_ok t (hs := es.map (·.1)) (wanted := wanted) hw hM (by rw [Array.size_map]; omega)
  rw [Array.size_map, sl] at hp
  obtain ⟨L2, r1, r2, r3⟩ := reorder (row P w) L rows hp
  have s2 : (order.filterMap (es[·]?)).size = es.size := by rw [rows_len r1, r2.length_eq, sl]
  rw [setRelay_eq]
  refine wpAny_bind (wpAny_setState_of ho hd (fits_of sz dm fl) ?_)
  dsimp only
  refine wp_if_neg (by rw [sizeLine_eq]; omega) ?_
  try refine wpAny_bind (wpAny_pure ?_)
  rw [e]
  dsimp only
  refine wpAny_bind ?_
  refine wp_if_neg (by rw [s2]; simp) ?_
  try refine wpAny_bind (wpAny_pure ?_)
  refine wpAny_pure ?_
  dsimp only
  refine wpAny_storeSet_of ho hd ?_ (by rw [s2, sizeLine_eq]; omega)
  have sb : Heap.SameBut a s.heap (s.heap.update a (Obj.putSet (order.filterMap (es[·]?)) t')) := Heap.SameBut.update ..
  refine hQ _ L2 _ (ep + 1) t' sb { here := ⟨_, store_at ho hd, ⟨hex.1, hex.2.1, hex.2.2⟩, rfl⟩, rows := r1, tab := by rw [← r3] at T; exact T, one := (r2.map (·.2)).nodup_iff.mpr one, are := fun p m => (are p (r2.mem_iff.mp m)).beside ho hd sb, led := by rw [el]; exact led, room := by rw [r2.length_eq, em]; exact hn, few := by rw [r2.length_eq]; exact few } r2

/-! ### a word more -/
theorem put_in (R : Tb P w s.heap a L es ep t) {x : Addr} {k : List Str} (hx : Wk P w s.heap k x) (hu : A.units < cLine) (few : k ∉ L.map (·.2) → L.length + 1 < 64) {Q : Bool → Shared → Prop}
    (hQ : ∀ b h' L' es' ep' t', Heap.SameBut a s.heap h' → Tb P w h' a L' es' ep' t' → (k ∈ L.map (·.2) → L' = L) → (k ∉ L.map (·.2) → L'.Perm ((x, k) :: L)) → Q b { s with heap := h' }) :
    wpAny (model P w) A (setAddHashed a (.ref x) (wh P w k)) Q E s := by
  obtain ⟨o, ho, hex, hd⟩ := R.here
  have sl := rows_len R.rows
  have room := R.room
  unfold setAddHashed
  refine wpAny_holding ?_
  rw [show (100000 : Nat) = 99999 + 1 from rfl, setAddHashedIn_succ]
  refine wpAny_bind (wpAny_setState_of ho hd R.fits ?_)
  dsimp only
  refine wp_if_neg (by simp [byScan, Value.scannable]) ?_
  try refine wpAny_bind (wpAny_pure ?_)
  refine wpAny_bind (search R hx hu (fun m => ?_) fun K m hK hb => ?_)
  · dsimp only
    exact wpAny_pure (hQ false s.heap L es ep t (Heap.SameBut.refl a s.heap) R (fun _ => rfl) fun n => absurd m n)
  dsimp only
  have few := few m
  refine wpAny_bind (wpAny_setState_of ho hd R.fits ?_)
  dsimp only
  obtain ⟨q1, q2, q3, q4, q5, _, _, _, q9⟩ := R.tab.put hK hb
  generalize t.put (way t.mask (wh P w k) K) = pt at q1 q3 q4 q5 q9 ⊢
  obtain ⟨t0, p⟩ := pt
  dsimp only at q1 q3 q4 q5 q9 ⊢
  subst q1
  -- plain or not
  have after : ∀ t1 : SetTable, (t1 = t0 ∨ t1 = { t0 with plain := false }) → wpAny (model P w) A (do
      storeSet a (SetTable.insertAt es (SetTable.below t.place (way t.mask (wh P w k) K)) (wh P w k, Value.ref x)) t1
      if !false && t1.tooFull then setRelay a (SetTable.grown (es.size + 1))
      return true) Q E s := fun t1 ht => by
    have f1 : t1.mask = t0.mask ∧ t1.led = t0.led ∧ t1.place = t0.place ∧ t1.dummies = t0.dummies ∧ t1.fill = t0.fill := by rcases ht with e | e <;> (subst e; exact ⟨rfl, rfl, rfl, rfl, rfl⟩)
    obtain ⟨g1, g2, g3, g4, g5⟩ := f1
    generalize hpp : SetTable.below t.place (way t.mask (wh P w k) K) = p at q2 q3 ⊢
    have pm := put_perm L p (x, k)
    have rows1 : (SetTable.insertAt es p (wh P w k, Value.ref x)).toList = (L.take p ++ (x, k) :: L.drop p).map (row P w) := by
      rw [SetTable.toList_insertAt, R.rows, List.map_append, List.map_cons, List.map_take, List.map_drop]
      rfl
    have tab1 : TabOk t1 ((L.take p ++ (x, k) :: L.drop p).map fun p => wh P w p.2) := by
      have e : ((L.take p ++ (x, k) :: L.drop p).map fun p => wh P w p.2) = (L.map fun p => wh P w p.2).take p ++ wh P w k :: (L.map fun p => wh P w p.2).drop p := by rw [List.map_append, List.map_cons, List.map_take, List.map_drop]
      rw [e]
      exact ⟨by rw [g3]; exact q3.ris, by rw [g4]; exact q3.dm, by rw [g3]; exact q3.sz, by rw [g1]; exact q3.mok, by rw [g3, g1]; exact q3.bd, by rw [g3, g1]; exact q3.reach⟩
    generalize L.take p ++ (x, k) :: L.drop p = L1 at pm rows1 tab1
    generalize SetTable.insertAt es p (wh P w k, Value.ref x) = es1 at rows1 ⊢
    have len1 : L1.length = L.length + 1 := pm.length_eq
    have sl1 := rows_len rows1
    refine wpAny_bind (wpAny_storeSet_of ho hd ?_ (by rw [sizeLine_eq]; omega))
    have sb : Heap.SameBut a s.heap (s.heap.update a (Obj.putSet es1 t1)) := Heap.SameBut.update ..
    have ho1 := store_at (es' := es1) (t' := t1) ho hd
    generalize s.heap.update a (Obj.putSet es1 t1) = h1 at sb ho1 ⊢
    have one1 : (L1.map (·.2)).Nodup := (pm.map (·.2)).nodup_iff.mpr (List.nodup_cons.mpr ⟨m, R.one⟩)
    have are1 : ∀ p ∈ L1, Wk P w h1 p.2 p.1 := fun p hp => by
      rcases List.mem_cons.mp (pm.mem_iff.mp hp) with e | hp
      · rw [e]; exact hx.beside ho hd sb
      · exact (R.are p hp).beside ho hd sb
    have led1 : w.params.followText "set-order" = true ∨ t1.led = true := by rw [g2, q5]; exact R.led
    have fill1 : t1.fill = L.length + 1 := by rw [g5, q9, List.length_map]
    have mask1 : t1.mask = t.mask := g1.trans q4
    have full : t1.tooFull = decide ((L.length + 1) * 5 ≥ t.mask * 3) := by
      unfold SetTable.tooFull
      rw [fill1, mask1]
    by_cases hf : (L.length + 1) * 5 ≥ t.mask * 3
    · have two : (t.mask = 7 ∧ L.length = 4) ∨ (t.mask = 31 ∧ L.length = 18) := by
        rcases R.tab.mok with e | e | e
        · exact .inl ⟨e, by rw [e] at hf room; omega⟩
        · exact .inr ⟨e, by rw [e] at hf room; omega⟩
        · rw [e] at hf room; omega
      have psz : t1.place.size = es1.size := by rw [tab1.sz, List.length_map, sl1]
      have go : ∀ M, SetTable.sizeAbove (SetTable.grown (L.length + 1)) - 1 = M → MaskOk M → SetTable.sizeAbove (SetTable.grown (L.length + 1)) ≤ 128 → (L.length + 1) * 5 < M * 3 →
          wpAny (model P w) A (setRelay a (SetTable.grown (L.length + 1))) (fun _ s' => wpAny (model P w) A (pure true) Q E s') E { s with heap := h1 } := fun M b1 b2 b3 b4 => by
        refine relay (s := { s with heap := h1 }) ho1 ⟨hex.1, hex.2.1, hex.2.2⟩ rfl rows1 psz tab1.dm (by rw [sl1, mask1, len1]; rcases two with ⟨e, e2⟩ | ⟨e, e2⟩ <;> omega) one1 are1 led1 (by omega) b1 b2 b3 (by omega) ?_
        intro h2 L2 es2 ep2 t2 sb2 R2 pm2
        exact wpAny_pure (hQ true h2 L2 es2 ep2 t2 (sb.trans sb2) R2 (fun z => absurd z m) fun _ => pm2.trans pm)
      first
        | (refine wpAny_bind ?_; refine wp_if_pos (by simp [full, hf]) ?_)
        | (refine wp_if_pos (by simp [full, hf]) ?_; refine wpAny_bind ?_)
      rw [sl]
      rcases two with ⟨_, e2⟩ | ⟨_, e2⟩
      · exact go 31 (by rw [e2, size_20]) (.inr (.inl rfl)) (by rw [e2, size_20]; decide) (by omega)
      · exact go 127 (by rw [e2, size_76]) (.inr (.inr rfl)) (by rw [e2, size_76]; decide) (by omega)
    · first
        | refine wp_if_neg (by simp [full, hf]) ?_
        | (refine wpAny_bind ?_; refine wp_if_neg (by simp [full, hf]) ?_; refine wpAny_pure ?_)
      exact wpAny_pure (hQ true h1 L1 es1 (ep + 1) t1 sb { here := ⟨_, ho1, ⟨hex.1, hex.2.1, hex.2.2⟩, rfl⟩, rows := rows1, tab := tab1, one := one1, are := are1, led := led1, room := by rw [mask1, len1]; omega, few := by omega } (fun z => absurd z m) fun _ => pm)
  by_cases hp : t0.plain = true
  · first
      | (refine wpAny_bind ?_; refine wp_if_pos hp ?_; refine by_value hx fun v => ?_)
      | refine wp_if_pos hp (wpAny_bind (by_value hx fun v => ?_))
    cases v with
    | true => exact after t0 (.inl rfl)
    | false => exact after _ (.inr rfl)
  · first
      | (refine wpAny_bind ?_; refine wp_if_neg hp ?_; refine wpAny_pure ?_)
      | refine wp_if_neg hp (wpAny_bind (wpAny_pure ?_))
    exact after t0 (.inl rfl)
end
end WS

set_option Elab.async false
set_option linter.all false
set_option maxRecDepth 100000
set_option maxHeartbeats 4000000
/-! WS2: lists of words sorted (an empty word may be among them). -/
namespace WS
open PySem PySem.Spec PySem.Calls PySem.SeqAt PySem.W PyProof.Rows
/-- a word as data -/
def enc (k : List Str) : PyData := .tuple (k.map .str)
theorem alike_strs : ∀ xs ys : List Str, alikeAll (xs.map .str) (ys.map .str) = true
  | [], _ => by simp [alikeAll]
  | _ :: _, [] => by simp [alikeAll]
  | x :: xs, y :: ys => by simp [alikeAll, alike, alike_strs xs ys]
theorem depth_strs : ∀ xs : List Str, PyData.depthAll (xs.map .str) = 0
  | [] => by simp [PyData.depthAll]
  | x :: xs => by simp [PyData.depthAll, PyData.depth, depth_strs xs]
theorem depth_enc (k : List Str) : (enc k).depth = 1 := by simp [enc, PyData.depth, depth_strs]
theorem alike_enc (k l : List Str) : alike (enc k) (enc l) = true := by simp [enc, alike, alike_strs]
section
variable {M : Model} {prog : Program} {w : World} {A : Around} {E : Value → Shared → Prop} {s : Shared}
theorem oneLt_words {k l : List Str} {a b : Value} {as bs : List Addr} {Q : Bool → Shared → Prop} (ra : Reads s.heap a (enc k) as) (rb : Reads s.heap b (enc l) bs) (hu : A.units + 1 < cLine) (hq : Q (dataLt (enc k) (enc l)) s) : wpAny (model prog w) A (oneLt' true a b) Q E s := by
  have hal := alike_strs k l
  unfold enc at ra rb hq
  cases ra with
  | @tuple p o vs n _ as₁ h1 h2 h3 h4 =>
    cases rb with
    | @tuple p' o' vs' n' _ bs₁ k1 k2 k3 k4 =>
      have n1 : vs.size = (k.map PyData.str).length := by simpa using ReadsAll.length _ _ _ h4
      have n2 : vs'.size = (l.map PyData.str).length := by simpa using ReadsAll.length _ _ _ k4
      have hu' : A.in1.units + min (PyData.depthAll (k.map .str)) (PyData.depthAll (l.map .str)) < cLine := by
        rw [depth_strs, depth_strs]
        show A.units + 1 + 0 < cLine
        omega
      rw [dataLt_tuple, ← firstLt_toks _ _ hal, ← n1, ← n2] at hq
      rw [oneLt'_eq]
      simp only [if_true]
      refine wpAny_bind (wpAny_cRoomFor (by omega) ?_)
      obtain ⟨cls, dd, data, sl⟩ := o
      obtain ⟨cls2, dd2, data2, sl2⟩ := o'
      simp only at h2 h3 k2 k3
      subst h2 h3 k2 k3
      refine wpAny_bind (wpAny_callSpecialIfBound?_slot (T := "tuple") ⟨_, h1, rfl⟩ F.slot_tuple_lt (call_meets F.slot_tuple_lt ⟨_, h1, rfl⟩ F.entry_tuple_lt (F.args_tuple_lt_2 _ _)
        (tuple_ltAt p p' vs vs' n n' dd dd2 sl sl2 (pairEq (k.map .str) (l.map .str)) fun j => dataLt ((k.map PyData.str).getD j .none) ((l.map PyData.str).getD j .none)) ⟨h1, k1, fun j j1 j2 => ?_, fun j j1 j2 hj => ?_, wpAny_truthy_bool hq⟩))
      · have := eqAt_alikeAll _ _ A.in1 s vs.toList vs'.toList _ _ h4 k4 hal hu' j (by simpa using j1) (by simpa using j2)
        simpa using this
      · have := rcLt_alikeAll _ _ A.in1 s vs.toList vs'.toList _ _ h4 k4 hal hu' j (by simpa using j1) (by simpa using j2) hj
        simpa using this
/-- the first item, if any -/
def first (h : Heap) : Value → Option Value
  | .ref a => match h.get? a with
    | some ⟨_, _, .seq xs _, _⟩ => xs[0]?
    | _ => none
  | _ => none
theorem first_reads {h : Heap} {v : Value} {k : List Str} {as : List Addr} (r : Reads h v (enc k) as) : (first h v).isSome = !k.isEmpty := by
  unfold enc at r
  cases r with
  | @tuple a o vs n _ _ h1 h2 h3 h4 =>
    obtain ⟨cls, dd, data, sl⟩ := o
    simp only at h2 h3
    subst h2 h3
    have n1 : vs.size = (k.map PyData.str).length := by simpa using ReadsAll.length _ _ _ h4
    have e1 : first h (.ref a) = vs[0]? := by simp only [first, h1]
    rw [e1]
    cases k with
    | nil =>
      have : vs.size = 0 := by simpa using n1
      simp [this]
    | cons x k =>
      have : 0 < vs.size := by rw [n1]; simp
      simp [this]
theorem mapM_by {α β : Type} {f : α → Sem β} {g : α → β} : ∀ (l : List α) {Q : List β → Shared → Prop}, (∀ v ∈ l, ∀ (Q' : β → Shared → Prop), Q' (g v) s → wpAny M A (f v) Q' E s) → Q (l.map g) s → wpAny M A (l.mapM f) Q E s
  | [], _, _, h => by rw [List.mapM_nil]; exact wpAny_pure h
  | x :: l, Q, hf, h => by
    rw [List.mapM_cons]
    exact wpAny_bind (hf x List.mem_cons_self _ (wpAny_bind (mapM_by l (Q := fun bs s' => wpAny M A (pure (g x :: bs)) Q E s') (fun v hv => hf v (List.mem_cons_of_mem _ hv)) (wpAny_pure h))))
theorem each_right {α β : Type} {R : α → β → Prop} : ∀ {vs : List α} {bs : List β}, EachIs R vs bs → ∀ b ∈ bs, ∃ v ∈ vs, R v b
  | _, _, .nil, b, h => nomatch h
  | _, _, .cons h t, b, hb => by
    rcases List.mem_cons.mp hb with rfl | hb
    · exact ⟨_, List.mem_cons_self, h⟩
    · obtain ⟨v, hv, r⟩ := each_right t b hb
      exact ⟨v, List.mem_cons_of_mem _ hv, r⟩
def wordsKind (bs : List (List Str)) : SortKind := if (bs.headD []).isEmpty then oneType' else general'
theorem kind_words {vs : List Value} {bs : List (List Str)} {Q : SortKind → Shared → Prop} (e : EachIs (fun v b => ∃ as, Reads s.heap v (enc b) as) vs bs) (hne : ∃ b ∈ bs, b = []) (h : Q (wordsKind bs) s) : wpAny M A (keyKind' vs.toArray) Q E s := by
  have look : ∀ v ∈ vs, Looks M s.heap (typeOf v) (.type "tuple") := fun v hv => by
    obtain ⟨b, _, as, r⟩ := e.left v hv
    exact looks_reads r
  rw [keyKind'_eq, List.mapM_toArray, map_eq_pure_bind]
  refine wpAny_bind (wpAny_bind (mapM_by (g := first s.heap) _ (fun v hv Q' hq => ?_) (wpAny_pure ?_)))
  · rw [kas_first_eq]
    refine wpAny_bind ((look v hv).here ?_)
    rw [if_neg (by simp)]
    obtain ⟨b, _, as, r⟩ := e.left v hv
    unfold enc at r
    cases r with
    | @tuple a o xs n _ _ h1 h2 h3 h4 =>
      refine wpAny_bind (listItems_at h1 h3 (wpAny_pure ?_))
      have : first s.heap (.ref a) = xs[0]? := by
        obtain ⟨cls, dd, data, sl⟩ := o
        simp only at h3
        subst h3
        simp only [first, h1]
      rw [← this]
      exact hq
  · have no : ¬ ((vs.map (first s.heap)).toArray.all (·.isSome)) = true := by
      intro hall
      obtain ⟨b, hb, rfl⟩ := hne
      obtain ⟨v, hv, as, r⟩ := each_right e _ hb
      have h1 := first_reads r
      simp only [List.all_toArray, List.all_map, List.all_eq_true] at hall
      have h2 := hall v hv
      simp only [Function.comp] at h2
      rw [h2] at h1
      simp at h1
    rw [if_neg no]
    cases e with
    | nil => obtain ⟨b, hb, _⟩ := hne; cases hb
    | @cons v b vs' bs' r0 t =>
      obtain ⟨as, r⟩ := r0
      have h1 := first_reads r
      have e0 : (((v :: vs').map (first s.heap)).toArray[0]?.bind id).isSome = !b.isEmpty := by
        rw [← h1]
        simp
      rw [e0]
      unfold wordsKind at h
      cases hb : b.isEmpty with
      | false =>
        simp only [List.headD_cons, hb, Bool.false_eq_true, if_false] at h
        simp only [Bool.not_false, if_true]
        exact wpAny_pure h
      | true =>
        simp only [List.headD_cons, hb, if_true] at h
        simp only [Bool.not_true, Bool.false_eq_true, if_false]
        rw [oneTypeOnly'_eq, List.mapM_toArray, map_eq_pure_bind]
        refine wpAny_bind (wpAny_bind (wpAny_bind (kas_mapM (r := Value.type "tuple") _ (fun u hu Q' hq => (look u hu).here hq) (wpAny_pure ?_))))
        have hall : ((List.map (fun _ => Value.type "tuple") (v :: vs')).toArray.all fun x => x == Value.type "tuple") = true := by
          simp only [List.all_toArray, List.all_map, List.all_eq_true]
          intro _ _
          exact beq_self_eq_true _
        have h0 : (List.map (fun _ => Value.type "tuple") (v :: vs')).toArray[0]? = some (Value.type "tuple") := by simp
        rw [h0]
        simp only [hall, if_true]
        exact wpAny_pure (wpAny_pure h)
theorem sorts_words {vs : List Value} {bs : List (List Str)} (e : EachIs (fun v b => ∃ as, Reads s.heap v (enc b) as) vs bs) (hu : A.units + 1 < cLine) : SortsAt prog w A s (dataKind s.heap (bs.map enc)) vs := by
  have hal : AllAlike (bs.map enc) := AllAlike.of alike_enc
  have e' : EachIs (fun v d => ∃ as, Reads s.heap v d as) vs (bs.map enc) := each_map (R := fun v d => ∃ as, Reads s.heap v d as) enc e
  by_cases hne : ∃ b ∈ bs, b = []
  · refine ⟨fun v hv => ?_, wordsKind bs, fun E x y a b Q ha hb hq => ?_, fun h2 E Q hq => kind_words e hne hq⟩
    · obtain ⟨d, hd, as, r⟩ := e'.left v hv
      exact ⟨_, dataKind_some hal hd r⟩
    · obtain ⟨d, as, hd, ra, rfl⟩ := dataKind_inv ha
      obtain ⟨d', as', hd', rb, rfl⟩ := dataKind_inv hb
      obtain ⟨k, _, rfl⟩ := List.mem_map.mp hd
      obtain ⟨l, _, rfl⟩ := List.mem_map.mp hd'
      have hq' : Q (dataLt (enc k) (enc l)) s := hq
      unfold wordsKind
      by_cases c : (bs.headD []).isEmpty = true
      · rw [if_pos c, keyLt'_oneType]
        exact oneLt_words ra rb hu hq'
      · rw [if_neg c]
        show wpAny _ _ (oneLt' false x y) _ _ _
        exact oneLt_alike (fun h => nomatch h) ra rb (alike_enc k l) (by simp [enc]) (by rw [depth_enc, depth_enc]; simpa using hu) hq'
  · refine SortsAt.data e' hal (.inl fun d hd => ?_) fun d hd => ?_
    · obtain ⟨k, hk, rfl⟩ := List.mem_map.mp hd
      cases k with
      | nil => exact absurd ⟨[], hk, rfl⟩ hne
      | cons x k => exact ⟨_, _, rfl⟩
    · obtain ⟨k, hk, rfl⟩ := List.mem_map.mp hd
      rw [depth_enc]
      exact hu
end
end WS

set_option Elab.async false
set_option linter.all false
set_option maxRecDepth 100000
set_option maxHeartbeats 4000000
/-! WS3: sets of words made, sorted; lists of words sorted by their lengths. -/
namespace WS
open PySem PySem.Spec PyProof.Rows L2
/-- fewer than 64 different words -/
def FewW (ks : List (Addr × List Str)) : Prop := ∀ L : List (Addr × List Str), (L.map (·.2)).Nodup → (∀ p ∈ L, p ∈ ks) → L.length < 64
/-- what came in of the first i of ks -/
structure Has (ks : List (Addr × List Str)) (i : Nat) (L : List (Addr × List Str)) : Prop where
  sub : ∀ p ∈ L, p ∈ ks.take i
  all : ∀ p ∈ ks.take i, p.2 ∈ L.map (·.2)
  len : L.length ≤ i
theorem Has.step {ks L L' : List (Addr × List Str)} {i : Nat} {p : Addr × List Str} (g : Has ks i L) (hp : ks[i]? = some p) (c1 : p.2 ∈ L.map (·.2) → L' = L) (c2 : p.2 ∉ L.map (·.2) → L'.Perm (p :: L)) : Has ks (i + 1) L' := by
  have e : ks.take (i + 1) = ks.take i ++ [p] := by rw [List.take_succ, hp]; rfl
  by_cases c : p.2 ∈ L.map (·.2)
  · obtain rfl := c1 c
    refine ⟨fun q hq => by rw [e]; exact List.mem_append_left _ (g.sub q hq), fun q hq => ?_, Nat.le_succ_of_le g.len⟩
    rw [e] at hq
    rcases List.mem_append.mp hq with h | h
    · exact g.all q h
    · rw [List.mem_singleton.mp h]; exact c
  · have pm := c2 c
    refine ⟨fun q hq => ?_, fun q hq => ?_, by rw [pm.length_eq, List.length_cons]; have := g.len; omega⟩
    · rw [e]
      rcases List.mem_cons.mp (pm.mem_iff.mp hq) with h | h
      · rw [h]; exact List.mem_append_right _ List.mem_cons_self
      · exact List.mem_append_left _ (g.sub q h)
    · rw [(pm.map (·.2)).mem_iff, List.map_cons]
      rw [e] at hq
      rcases List.mem_append.mp hq with h | h
      · exact List.mem_cons_of_mem _ (g.all q h)
      · rw [List.mem_singleton.mp h]; exact List.mem_cons_self
section
variable {P : Program} {w : World} {A : Around} {E : Value → Shared → Prop} {s : Shared}
theorem Tb.keep {h h' : Heap} {a : Addr} {L : List (Addr × List Str)} {es : Array (Int × Value)} {ep : Nat} {t : SetTable} (R : Tb P w h a L es ep t) (ha : ∀ o, h.get? a = some o → h'.get? a = some o) (ht : ∀ p ∈ L, Wk P w h' p.2 p.1) : Tb P w h' a L es ep t := by
  obtain ⟨o, ho, r⟩ := R.here
  exact ⟨⟨o, ha o ho, r⟩, R.rows, R.tab, R.one, ht, R.led, R.room, R.few⟩
theorem tb_new {h : Heap} {a : Addr} (ho : h.get? a = some { cls := .type "set", dict := none, data := .set #[] 0 (.fresh 0 0 (!w.params.followText "set-order")) }) : Tb P w h a [] #[] 0 (.fresh 0 0 (!w.params.followText "set-order")) where
  here := ⟨_, ho, ⟨rfl, rfl, rfl⟩, rfl⟩
  rows := rfl
  tab := ⟨.nil, rfl, rfl, .inl rfl, fun x hx => (nomatch hx), fun i h j hi => by simp at hi⟩
  one := .nil
  are := fun p hp => nomatch hp
  led := by
    cases e : w.params.followText "set-order" with
    | true => exact .inl rfl
    | false => exact .inr rfl
  room := (by decide : 0 * 5 < 7 * 3)
  few := (by decide : 0 < 64)
/-- the loop of set.update -/
theorem loop {I : Addr} {fp wr : List Addr} {G : Array GenState → Array GenState → Prop} {n : Nat} {Pv : Nat → Value → Prop} {St : Nat → Shared → Prop} {R : Result → Shared → Prop} (W : WalksS P w A.in1 I fp wr G n Pv St) (S : Addr) (nS : S ∉ fp)
    (ks : List (Addr × List Str)) (hn : n = ks.length) (few : FewW ks) (val : ∀ i v, Pv i v → ∃ p, ks[i]? = some p ∧ v = .ref p.1) (h0 : Heap) (hk : ∀ p ∈ ks, Wk P w h0 p.2 p.1) (hS : h0.get? S = none) (hw : ∀ b ∈ wr, h0.get? b = none) (hu : A.in1.units < cLine) :
    ∀ (k i : Nat) (s : Shared), n - i = k → i ≤ n → St i s → (∀ b o, h0.get? b = some o → s.heap.get? b = some o) → (∃ L es ep t, Tb P w s.heap S L es ep t ∧ Has ks i L) →
      (∀ s' L es ep t, Moved (S :: wr) G s s' → Tb P w s'.heap S L es ep t → Has ks n L → (∀ b o, h0.get? b = some o → s'.heap.get? b = some o) → R (.ok (.ret .none)) s') →
      codeAny (model P w) A (.builtin "set.update.loop" ⟨[.ref S, .ref I], []⟩) R s := by
  have nw : S ∉ wr := fun h => nS (W.sub _ h)
  have inc : ∀ b ∈ wr, b ∈ S :: wr := fun b => List.mem_cons_of_mem _
  have keepM : ∀ {s s' : Shared}, Moved wr G s s' → (∀ b o, h0.get? b = some o → s.heap.get? b = some o) → ∀ b o, h0.get? b = some o → s'.heap.get? b = some o := fun hm kp b o e =>
    hm.heap b o (fun hb => by rw [hw b hb] at e; cases e) (kp b o e)
  intro k
  induction k with
  | zero =>
    intro i s hk' hi st kp ⟨L, es, ep, t, T, g⟩ hR
    obtain rfl : i = n := by omega
    refine codeAny_builtin F.entry_set_update_loop ?_
    rw [Around.under_plainId F.plain_set_update_loop _]
    refine wpAny_bind (m := pyNext (.ref I)) (W.done s _ _ st fun s' hm => ?_)
    have kp' := keepM hm kp
    exact wpAny_pure (hR s' L es ep t (hm.mono inc) (T.keep (fun o e => hm.heap S o nw e) fun p hp => (hk p (List.mem_of_mem_take (g.sub p hp))).keep fun o e => kp' _ o e) g kp')
  | succ k ih =>
    intro i s hk' hi st kp ⟨L, es, ep, t, T, g⟩ hR
    have lt : i < n := by omega
    refine codeAny_builtin F.entry_set_update_loop ?_
    rw [Around.under_plainId F.plain_set_update_loop _]
    refine wpAny_bind (m := pyNext (.ref I)) (W.item i s _ _ lt st fun v s' hP st' hm => ?_)
    obtain ⟨p, hp, rfl⟩ := val i v hP
    have kp' := keepM hm kp
    have T' : Tb P w s'.heap S L es ep t := T.keep (fun o e => hm.heap S o nw e) fun q hq => (hk q (List.mem_of_mem_take (g.sub q hq))).keep fun o e => kp' _ o e
    have hx : Wk P w s'.heap p.2 p.1 := (hk p (List.mem_of_getElem? hp)).keep fun o e => kp' _ o e
    refine wpAny_bind (m := holding [Value.ref p.1] (setAdd S (.ref p.1))) (wpAny_holding ?_)
    unfold setAdd
    refine wpAny_holding (wpAny_bind (wpAny_pyHash_tuple hu hx ?_))
    refine put_in (s := { s' with toks := s'.toks + (p.2.length + 1) }) T' hx hu (fun hn => few (p :: L) (List.nodup_cons.mpr ⟨hn, T'.one⟩) fun q hq => (List.mem_cons.mp hq).elim (fun e => by rw [e]; exact List.mem_of_getElem? hp) fun h => List.mem_of_mem_take (g.sub q h)) fun b h' L' es' ep' t' sb T2 c1 c2 => ?_
    have kp2 : ∀ b o, h0.get? b = some o → h'.get? b = some o := fun b o e => (sb.2 b (fun z => by rw [z, hS] at e; cases e)).trans (kp' b o e)
    refine wpAny_pure ⟨plainId_quiet F.plain_set_update_loop _, ih (i + 1) _ (by omega) lt (W.frame _ s' _ _ st' (Nat.le_add_right _ _) fun b hb o e => ?_) kp2 ⟨L', es', ep', t', T2, g.step hp c1 c2⟩ fun s'' L2 es2 ep2 t2 hm2 T3 g3 kp3 => ?_⟩
    · rw [sb.2 b (fun e2 => nS (e2 ▸ hb))]; exact e
    · refine hR s'' L2 es2 ep2 t2 (Moved.trans W.gtrans ((hm.mono inc).then_heap (Nat.le_add_right _ _) fun b o hb e => ?_) hm2) T3 g3 kp3
      rw [sb.2 b (fun e2 => hb (e2 ▸ List.mem_cons_self))]; exact e

/-- set(xs) of a list -/
theorem set_list {l : Addr} {items : Array Value} (ks : List (Addr × List Str)) {Q : Value → Shared → Prop} (hh : A.handled = none) (hl : s.heap.IsList l items) (hit : items.toList = ks.map fun p => Value.ref p.1) (hk : ∀ p ∈ ks, Wk P w s.heap p.2 p.1) (few : FewW ks) (hu : A.units + 3 < cLine)
    (h : ∀ (h' : Heap) (tk : Nat) L es ep t, Tb P w h' s.heap.objs.size L es ep t → Has ks ks.length L → (∀ b o, s.heap.get? b = some o → h'.get? b = some o) → Q (.ref s.heap.objs.size) { s with heap := h', toks := tk }) :
    wpAny (model P w) A (call (.type "set") [.ref l]) Q E s := by
  have isz : items.size = ks.length := by simpa using congrArg List.length hit
  obtain ⟨c, tl, hmro⟩ := F.called_set.mro
  have hmade := F.called_set.made
  have hsub := F.called_set.sub
  refine wpAny_call (codeAny_of_tree ?_)
  show wpAny _ _ (callAny (.type "set") _) _ _ _
  refine wpAny_pure ⟨Code.quiet_builtin _ (by decide +kernel), codeAny_builtin F.entry_type_call ?_⟩
  rw [Around.under_plain (weight_type_call_type "set" [.ref l] []) rfl]
  have h1 := F.called_set.notType
  have h2 := F.called_set.canCreate
  have hct := F.typeCall_set_1 (.ref l)
  repeat (any_goals (first | assumption | wp_step))
  refine codeAny_mono (code_set_led1 (.ref l) (E := E) (Q₁ := fun obj s₁ => obj = .ref s.heap.objs.size ∧ s₁ = { s with heap := s.heap.push { cls := .type "set", dict := none, data := .set #[] 0 (.fresh 0 0 (!w.params.followText "set-order")) } }) ⟨rfl, rfl⟩) fun r s₁ hr => ?_
  rcases r with e | (obj | _ | _ | _) <;> first | exact hr | exact hr.elim | skip
  obtain ⟨rfl, rfl⟩ := hr
  have gS : (s.heap.push { cls := .type "set", dict := none, data := .set #[] 0 (.fresh 0 0 (!w.params.followText "set-order")) }).get? s.heap.objs.size = some { cls := .type "set", dict := none, data := .set #[] 0 (.fresh 0 0 (!w.params.followText "set-order")) } := Heap.get?_push_size _ rfl
  have tS : Shared.TypeIs { s with heap := s.heap.push { cls := .type "set", dict := none, data := .set #[] 0 (.fresh 0 0 (!w.params.followText "set-order")) } } (.ref s.heap.objs.size) "set" := ⟨_, gS, rfl⟩
  have hli := F.called_set.init.lookup
  have hbi := F.called_set.init.bind (.ref s.heap.objs.size)
  repeat (any_goals (first | assumption | wp_step))
  refine codeAny_mono (codeAny_call_builtin (R := wants (fun r s₂ => r = .none ∧ ∃ h' tk L es ep t, s₂ = { s with heap := h', toks := tk } ∧ Tb P w h' s.heap.objs.size L es ep t ∧ Has ks ks.length L ∧ (∀ b o, s.heap.get? b = some o → h'.get? b = some o)) E) F.called_set.init.plain F.entry_set_init (check_set_init_1 tS ?_)) fun r₂ s₂ hr₂ => ?_
  · obtain ⟨⟨ocls, odict, odata, oslots⟩, hol, hcl, nl, hdl⟩ := hl
    simp only at hcl hdl
    subst hcl hdl
    have hol' := Heap.get?_push_of_some { cls := .type "set", dict := none, data := .set #[] 0 (.fresh 0 0 (!w.params.followText "set-order")) } hol
    have hsls := F.sub_list_set
    have hslf := F.sub_list_frozenset
    have hne : (Value.type "list" == Value.type "dict") = false := by decide
    have hl1 : (s.heap.push { cls := .type "set", dict := none, data := .set #[] 0 (.fresh 0 0 (!w.params.followText "set-order")) }).IsList l items := ⟨_, hol', rfl, nl, rfl⟩
    unfold Builtin.«set.__init__» noKeywords Builtin.Frozenset.updateFrom
    generalize hPI : pyIter = PI
    wp_walk
    subst hPI
    refine wpAny_pyIter_list hl1 (wpAny_bind (wpAny_runValue ?_))
    have lS : l < s.heap.objs.size := Heap.lt_size hol
    have sz1 : (s.heap.push { cls := .type "set", dict := none, data := .set #[] 0 (.fresh 0 0 (!w.params.followText "set-order")) }).objs.size = s.heap.objs.size + 1 := Heap.size_push ..
    have gone : ∀ b, s.heap.objs.size ≤ b → s.heap.get? b = none := fun b hb => Heap.get?_none_of_le hb
    refine loop ((Walks.list (by simp [hh]) _ l (by rw [sz1]; exact Nat.ne_of_lt (Nat.lt_succ_of_lt lS)) items).toS) s.heap.objs.size (by rw [sz1]; simp only [List.mem_cons, List.not_mem_nil, or_false, not_or]; exact ⟨Nat.ne_of_lt (Nat.lt_succ_self _), Nat.ne_of_gt lS⟩) ks isz few (fun i v hv => ?_) s.heap hk (gone _ (Nat.le_refl _))
      (fun b hb => gone b (by rw [List.mem_singleton.mp hb, sz1]; exact Nat.le_succ _)) hu (items.size - 0) 0 _ (by omega) (Nat.zero_le _) ⟨⟨_, Heap.get?_push_size _ rfl, rfl, rfl⟩, hl1.push _⟩ (fun b o e => Heap.get?_push_of_some _ (Heap.get?_push_of_some _ e)) ?_ fun s' L es ep t hm T g kp => ?_
    · have q : items.toList[i]? = some v := by rw [Array.getElem?_toList]; exact hv
      rw [hit, List.getElem?_map] at q
      obtain ⟨p, hp, e⟩ := Option.map_eq_some_iff.mp q
      exact ⟨p, hp, e.symm⟩
    · exact ⟨[], #[], 0, _, tb_new (Heap.get?_push_of_some _ gS), ⟨fun p h => (nomatch h), fun p h => by simp at h, Nat.le_refl _⟩⟩
    · obtain ⟨h', g2, d', tk', os'⟩ := s'
      obtain rfl : g2 = s.gens := hm.gens
      obtain rfl : d' = s.drawn := hm.drawn
      obtain rfl : os' = s.os := hm.os
      show wpAny _ _ _ _ _ _
      refine wpAny_pure ?_
      show wpAny _ _ (ret Value.none) _ _ _
      rw [isz] at g
      exact wpAny_pure ⟨rfl, h', tk', L, es, ep, t, rfl, T, g, kp⟩
  · rcases r₂ with e | (r | _ | _ | _) <;> first | exact hr₂ | exact hr₂.elim | skip
    obtain ⟨rfl, h', tk, L, es, ep, t, rfl, T, g, kp⟩ := hr₂
    repeat (any_goals (first | assumption | wp_step))
    exact h _ _ _ _ _ _ T g kp

/-- set(xs) of a tuple -/
theorem set_tuple {l : Addr} {items : Array Value} (ks : List (Addr × List Str)) {Q : Value → Shared → Prop} (hh : A.handled = none) (hl : s.heap.IsTuple l items) (hit : items.toList = ks.map fun p => Value.ref p.1) (hk : ∀ p ∈ ks, Wk P w s.heap p.2 p.1) (few : FewW ks) (hu : A.units + 3 < cLine)
    (h : ∀ (h' : Heap) (tk : Nat) L es ep t, Tb P w h' s.heap.objs.size L es ep t → Has ks ks.length L → (∀ b o, s.heap.get? b = some o → h'.get? b = some o) → Q (.ref s.heap.objs.size) { s with heap := h', toks := tk }) :
    wpAny (model P w) A (call (.type "set") [.ref l]) Q E s := by
  have isz : items.size = ks.length := by simpa using congrArg List.length hit
  obtain ⟨c, tl, hmro⟩ := F.called_set.mro
  have hmade := F.called_set.made
  have hsub := F.called_set.sub
  refine wpAny_call (codeAny_of_tree ?_)
  show wpAny _ _ (callAny (.type "set") _) _ _ _
  refine wpAny_pure ⟨Code.quiet_builtin _ (by decide +kernel), codeAny_builtin F.entry_type_call ?_⟩
  rw [Around.under_plain (weight_type_call_type "set" [.ref l] []) rfl]
  have h1 := F.called_set.notType
  have h2 := F.called_set.canCreate
  have hct := F.typeCall_set_1 (.ref l)
  repeat (any_goals (first | assumption | wp_step))
  refine codeAny_mono (code_set_led1 (.ref l) (E := E) (Q₁ := fun obj s₁ => obj = .ref s.heap.objs.size ∧ s₁ = { s with heap := s.heap.push { cls := .type "set", dict := none, data := .set #[] 0 (.fresh 0 0 (!w.params.followText "set-order")) } }) ⟨rfl, rfl⟩) fun r s₁ hr => ?_
  rcases r with e | (obj | _ | _ | _) <;> first | exact hr | exact hr.elim | skip
  obtain ⟨rfl, rfl⟩ := hr
  have gS : (s.heap.push { cls := .type "set", dict := none, data := .set #[] 0 (.fresh 0 0 (!w.params.followText "set-order")) }).get? s.heap.objs.size = some { cls := .type "set", dict := none, data := .set #[] 0 (.fresh 0 0 (!w.params.followText "set-order")) } := Heap.get?_push_size _ rfl
  have tS : Shared.TypeIs { s with heap := s.heap.push { cls := .type "set", dict := none, data := .set #[] 0 (.fresh 0 0 (!w.params.followText "set-order")) } } (.ref s.heap.objs.size) "set" := ⟨_, gS, rfl⟩
  have hli := F.called_set.init.lookup
  have hbi := F.called_set.init.bind (.ref s.heap.objs.size)
  repeat (any_goals (first | assumption | wp_step))
  refine codeAny_mono (codeAny_call_builtin (R := wants (fun r s₂ => r = .none ∧ ∃ h' tk L es ep t, s₂ = { s with heap := h', toks := tk } ∧ Tb P w h' s.heap.objs.size L es ep t ∧ Has ks ks.length L ∧ (∀ b o, s.heap.get? b = some o → h'.get? b = some o)) E) F.called_set.init.plain F.entry_set_init (check_set_init_1 tS ?_)) fun r₂ s₂ hr₂ => ?_
  · obtain ⟨⟨ocls, odict, odata, oslots⟩, hol, hcl, nl, hdl⟩ := hl
    simp only at hcl hdl
    subst hcl hdl
    have hol' := Heap.get?_push_of_some { cls := .type "set", dict := none, data := .set #[] 0 (.fresh 0 0 (!w.params.followText "set-order")) } hol
    have hsls := F.sub_tuple_set
    have hslf := F.sub_tuple_frozenset
    have hne : (Value.type "tuple" == Value.type "dict") = false := by decide
    have hl1 : (s.heap.push { cls := .type "set", dict := none, data := .set #[] 0 (.fresh 0 0 (!w.params.followText "set-order")) }).IsTuple l items := ⟨_, hol', rfl, nl, rfl⟩
    unfold Builtin.«set.__init__» noKeywords Builtin.Frozenset.updateFrom
    generalize hPI : pyIter = PI
    wp_walk
    subst hPI
    refine wpAny_pyIter_tuple hl1 (wpAny_bind (wpAny_runValue ?_))
    have lS : l < s.heap.objs.size := Heap.lt_size hol
    have sz1 : (s.heap.push { cls := .type "set", dict := none, data := .set #[] 0 (.fresh 0 0 (!w.params.followText "set-order")) }).objs.size = s.heap.objs.size + 1 := Heap.size_push ..
    have gone : ∀ b, s.heap.objs.size ≤ b → s.heap.get? b = none := fun b hb => Heap.get?_none_of_le hb
    refine loop ((Walks.tuple (by simp [hh]) _ l (by rw [sz1]; exact Nat.ne_of_lt (Nat.lt_succ_of_lt lS)) items).toS) s.heap.objs.size (by rw [sz1]; simp only [List.mem_cons, List.not_mem_nil, or_false, not_or]; exact ⟨Nat.ne_of_lt (Nat.lt_succ_self _), Nat.ne_of_gt lS⟩) ks isz few (fun i v hv => ?_) s.heap hk (gone _ (Nat.le_refl _))
      (fun b hb => gone b (by rw [List.mem_singleton.mp hb, sz1]; exact Nat.le_succ _)) hu (items.size - 0) 0 _ (by omega) (Nat.zero_le _) ⟨⟨_, Heap.get?_push_size _ rfl, rfl, rfl⟩, hl1.push _⟩ (fun b o e => Heap.get?_push_of_some _ (Heap.get?_push_of_some _ e)) ?_ fun s' L es ep t hm T g kp => ?_
    · have q : items.toList[i]? = some v := by rw [Array.getElem?_toList]; exact hv
      rw [hit, List.getElem?_map] at q
      obtain ⟨p, hp, e⟩ := Option.map_eq_some_iff.mp q
      exact ⟨p, hp, e.symm⟩
    · exact ⟨[], #[], 0, _, tb_new (Heap.get?_push_of_some _ gS), ⟨fun p h => (nomatch h), fun p h => by simp at h, Nat.le_refl _⟩⟩
    · obtain ⟨h', g2, d', tk', os'⟩ := s'
      obtain rfl : g2 = s.gens := hm.gens
      obtain rfl : d' = s.drawn := hm.drawn
      obtain rfl : os' = s.os := hm.os
      show wpAny _ _ _ _ _ _
      refine wpAny_pure ?_
      show wpAny _ _ (ret Value.none) _ _ _
      rw [isz] at g
      exact wpAny_pure ⟨rfl, h', tk', L, es, ep, t, rfl, T, g, kp⟩
  · rcases r₂ with e | (r | _ | _ | _) <;> first | exact hr₂ | exact hr₂.elim | skip
    obtain ⟨rfl, h', tk, L, es, ep, t, rfl, T, g, kp⟩ := hr₂
    repeat (any_goals (first | assumption | wp_step))
    exact h _ _ _ _ _ _ T g kp
end
end WS

set_option Elab.async false
set_option linter.all false
set_option maxRecDepth 100000
set_option maxHeartbeats 4000000
/-! PD9: texts, tuples, kinds, while, by data. -/
namespace PD
open PySem PySem.Spec PyProof.Rows L2
section
variable {z : Zp} {P : D → Prop} {K : PySem.W.Frag} {ρ : List (Option D)} {te to ta tb tc : TE} {tr tk : TA} {out : Out} {r : List Sl}
/-! ### chains of comparisons -/
theorem e_chain {r r' : R2} (h : E1 z ta ρ fun d => E1 z tb ρ fun e => O2 z r d e fun f => ∃ k, f = .bl k ∧ if k = true then E1 z tc ρ fun g => O2 z r' e g P else P (.bl false)) : E1 z (tChain r r' ta tb tc) ρ P := fun hs σ H p s Q w =>
  h hs σ H p s _ fun x H1 d e1 p1 rx h1 => h1 hs σ H1 p1 (s.mono (exz_hid e1)) _ fun y H2 e e2 p2 ry h2 =>
    h2 hs x y H2 p2 (R.mono (exz_hid e2) _ _ rx) ry _ fun c H3 f e3 p3 rf ⟨k, ek, h3⟩ => by
      subst ek
      cases rf
      have e13 := e1.trans (e2.trans e3)
      refine ⟨k, rfl, ?_⟩
      cases k with
      | true =>
        rw [if_pos rfl] at h3 ⊢
        exact h3 hs σ H3 p3 (s.mono (exz_hid e13)) _ fun v H4 g e4 p4 rg h4 => h4 hs y v H4 p4 (R.mono (exz_hid (e3.trans e4)) _ _ ry) rg Q (w.back (e13.trans e4))
      | false =>
        rw [if_neg (by decide)] at h3 ⊢
        exact (w.back e13).here p3 (.bl _) h3
/-! ### texts -/
theorem i_str {PI : Nat → (Nat → D) → Prop} (h : E1 z te ρ fun d => ∃ x : Str, d = .str x ∧ PI x.cps.size fun i => .str ⟨#[x.cps.getD i 0]⟩) : EI z (iStr te) ρ PI := fun hs σ H p s Rr w =>
  h hs σ H p s _ fun v H1 d e1 p1 r ⟨x, ed, q⟩ => by
    subst ed
    cases r
    refine ⟨x, rfl, w _ H1 _ _ e1 p1 (fun hs' H' p' k i => ⟨fun hi => ⟨hi, fun y H2 ⟨e, c, hc, ey⟩ => ?_⟩, fun hi => hi⟩) q⟩
    subst e ey
    refine ⟨fun _ _ q => q, p', ?_⟩
    have : x.cps.getD i 0 = c := by rw [Array.getD_eq_getD_getElem?, hc]; rfl
    rw [this]
    exact .str _
theorem o_sign {d e : D} (h : ∃ (c : Nat) (x : Str), d = .str ⟨#[c]⟩ ∧ e = .str x ∧ P (.bl (decide (c ∈ x.cps.toList)))) : O2 z (fun x y H Q => ∃ (c : Nat) (zz : Str), x = .str ⟨#[c]⟩ ∧ y = .str zz ∧ Q (.bl (decide (c ∈ zz.cps.toList))) H) d e P := fun hs x y H p rx ry Q w => by
  obtain ⟨c, t, rfl, rfl, q⟩ := h
  cases rx; cases ry
  exact ⟨c, t, rfl, rfl, w.here p (.bl _) q⟩
theorem o_addS {d e : D} (h : ∃ i j : Str, d = .str i ∧ e = .str j ∧ i.length + j.length ≤ sizeLine ∧ P (.str (i ++ j))) : O2 z (fun x y H Q => ∃ i j, x = .str i ∧ y = .str j ∧ i.length + j.length ≤ sizeLine ∧ Q (.str (i ++ j)) H) d e P := fun hs x y H p rx ry Q w => by
  obtain ⟨i, j, rfl, rfl, hl, q⟩ := h
  cases rx; cases ry
  exact ⟨i, j, rfl, rfl, hl, w.here p (.str _) q⟩
theorem o_ltS {d e : D} (h : ∃ i j : Str, d = .str i ∧ e = .str j ∧ P (.bl (decide (i.cps.toList < j.cps.toList)))) : O2 z (fun x y H Q => ∃ i j, x = .str i ∧ y = .str j ∧ Q (.bl (decide (i.cps.toList < j.cps.toList))) H) d e P := fun hs x y H p rx ry Q w => by
  obtain ⟨i, j, rfl, rfl, q⟩ := h
  cases rx; cases ry
  exact ⟨i, j, rfl, rfl, w.here p (.bl _) q⟩
def rMulS : R2 := fun x y H Q => ∃ (i : Str) (k : Nat), x = .str i ∧ y = .int k ∧ i.length * k ≤ 100000 ∧ k ≤ 100000 ∧ Q (.str ⟨(List.replicate k i.cps.toList).flatten.toArray⟩) H
theorem fold_arr : ∀ (k : Nat) (x a : Array Nat), (List.replicate k x).foldl (· ++ ·) a = ⟨a.toList ++ (List.replicate k x.toList).flatten⟩
  | 0, x, a => by simp
  | k + 1, x, a => by
    rw [List.replicate_succ, List.foldl_cons, fold_arr k x]
    simp [List.replicate_succ]
theorem op_mulS {X : Cx} : OpR X (binaryOp .Mult) rMulS := by
  intro pins s σ H x y v u Q I rx ry h
  obtain ⟨i, k, rfl, rfl, hl, hk, q⟩ := h
  obtain ⟨t, rfl⟩ := rx
  obtain ⟨t', rfl⟩ := ry
  refine PySem.P.mul_str (by
      have h1 : ¬ ((k : Int) < -(2 ^ 63 : Int)) := by omega
      have h2 : ¬ ((k : Int) ≥ 2 ^ 63) := by omega
      rw [decide_eq_false h1, decide_eq_false h2]; rfl) (fun h1 h2 h3 => ?_) (fun h1 h2 => ?_) ?_
  · have k1 : 1 ≤ (k : Int) := by omega
    have h4 : ((i.length : Nat) : Int) * k ≤ 100000 := by rw [← Int.natCast_mul]; omega
    have h5 : (100000 : Int) / k < (2 ^ 63 - 1) / k + 1 := by
      have : (100000 : Int) / k ≤ (2 ^ 63 - 1) / k := Int.ediv_le_ediv (by omega) (by decide)
      omega
    have h6 : (i.length : Int) ≤ 100000 / k := (Int.le_ediv_iff_mul_le (by omega)).mpr h4
    omega
  · unfold Builtin.Str.tooLong
    rw [Int.toNat_natCast]
    have := sizeLine_eq
    exact decide_eq_false (by omega)
  · by_cases h0 : (k : Int) < 1
    · rw [if_pos h0]
      have : k = 0 := by omega
      subst this
      refine ⟨by decide, ?_⟩
      exact ⟨.str _, H, I.tok _, ⟨_, rfl⟩, q⟩
    · rw [if_neg h0]
      by_cases h1 : ((k : Int) == 1 || i.length == 0) = true
      · rw [if_pos h1]
        have e : (⟨(List.replicate k i.cps.toList).flatten.toArray⟩ : Str) = i := by
          rcases Bool.or_eq_true_iff.mp h1 with h | h
          · have : k = 1 := by have := eq_of_beq h; omega
            subst this
            simp
          · have e0 : i.cps.toList = [] := by
              have h' : i.cps.size = 0 := by simpa [Str.length] using h
              simpa using h'
            cases i with
            | mk cps =>
              have : cps = #[] := by simpa using e0
              subst this
              simp
        rw [e] at q
        exact ⟨.str _, H, I, ⟨_, rfl⟩, q⟩
      · rw [if_neg h1]
        rw [fold_arr, Int.toNat_natCast]
        refine ⟨?_, ⟨.str _, H, I.tok _, ⟨_, rfl⟩, by simpa using q⟩⟩
        have e : (⟨(⟨#[].toList ++ (List.replicate k i.cps.toList).flatten⟩ : Array Nat)⟩ : Str).length = i.length * k := by
          show (([] : List Nat) ++ (List.replicate k i.cps.toList).flatten).length = _
          simp [Nat.mul_comm, Str.length]
        first
          | (rw [e, sizeLine_eq]; omega)
          | (have := sizeLine_eq; simp_all; omega)
theorem o_mulS {d e : D} (h : ∃ (i : Str) (k : Nat), d = .str i ∧ e = .int k ∧ i.length * k ≤ 100000 ∧ k ≤ 100000 ∧ P (.str ⟨(List.replicate k i.cps.toList).flatten.toArray⟩)) : O2 z rMulS d e P := fun hs x y H p rx ry Q w => by
  obtain ⟨i, k, rfl, rfl, hl, hk, q⟩ := h
  cases rx; cases ry
  exact ⟨i, k, rfl, rfl, hl, hk, w.here p (.str _) q⟩
theorem o_slS {lo hi : Option Int} {d : D} (h : ∃ x : Str, d = .str x ∧ x.length ≤ sizeLine ∧ P (.str (cutS x lo hi))) : O1 z (fun x => rSlS x lo hi) d P := fun hs x H p rx Q w => by
  obtain ⟨t, rfl, hl, q⟩ := h
  cases rx
  exact ⟨t, rfl, hl, w.here p (.str _) q⟩
theorem e_m0 {r : V → List V → Hp → VK → Prop} (h : E1 z to ρ fun d => ∃ a, d = .str a ∧ OM z r (.str a) [] P) : E1 z (tM0 r to) ρ P := fun hs σ H p s Q w =>
  h hs σ H p s _ fun x H1 d e1 p1 rx ⟨a, ed, h1⟩ => by
    subst ed
    exact ⟨by cases rx; exact ⟨a, rfl⟩, h1 hs x [] H1 p1 rx .nil Q (w.back e1)⟩
theorem e_m1 {r : V → List V → Hp → VK → Prop} (h : E1 z to ρ fun d => ∃ a, d = .str a ∧ E1 z te ρ fun e => OM z r (.str a) [e] P) : E1 z (tM1 r to te) ρ P := fun hs σ H p s Q w =>
  h hs σ H p s _ fun x H1 d e1 p1 rx ⟨a, ed, h1⟩ => by
    subst ed
    cases rx
    exact ⟨⟨a, rfl⟩, h1 hs σ H1 p1 (s.mono (exz_hid e1)) _ fun y H2 e e2 p2 ry h2 => h2 hs (.str a) [y] H2 p2 (.str a) (.cons ry .nil) Q (w.back (e1.trans e2))⟩
theorem ra_strs {H : Hp} {zz : Zp} : ∀ (ys : List Str) (vs : List V), RA zz H vs (ys.map D.str) → vs = ys.map V.str
  | [], _, h => by cases h; rfl
  | y :: ys, _, h => by cases h with | cons h1 h2 => cases h1; rw [ra_strs ys _ h2]; rfl
theorem strs_ra {H : Hp} {zz : Zp} : ∀ ys : List Str, RA zz H (ys.map V.str) (ys.map D.str)
  | [] => .nil
  | y :: ys => .cons (.str y) (strs_ra ys)
theorem m_join {a : Str} {e : D} (h : ∃ ys : List Str, (e = .lst (ys.map D.str) ∨ e = .tup (ys.map D.str)) ∧ (ys.map (·.length)).sum + ys.length * a.length ≤ 16777216 ∧ P (.str (Txt.join a ys))) :
    OM z (fun x xs H Q => ∃ a p, ∃ ys : List Str, x = .str a ∧ xs = [.ref p] ∧ (SqL K H p (ys.map V.str) ∨ SqT K H p (ys.map V.str)) ∧ (ys.map (·.length)).sum + ys.length * a.length ≤ 16777216 ∧ Q (.str (Txt.join a ys)) H) (.str a) [e] P := fun hs x xs H p rx rs Q w => by
  obtain ⟨ys, he, hl, q⟩ := h
  cases rx
  cases rs with
  | cons r rs =>
    cases rs
    rcases he with rfl | rfl
    · cases r with
      | lst h1 h2 =>
        have e := ra_strs ys _ h2
        subst e
        exact ⟨a, _, ys, rfl, rfl, .inl (.inl (.inl (hid_sub _ _ h1))), hl, w.here p (.str _) q⟩
    · cases r with
      | tup h1 h2 =>
        have e := ra_strs ys _ h2
        subst e
        exact ⟨a, _, ys, rfl, rfl, .inr (.inl (.inl (hid_sub _ _ h1))), hl, w.here p (.str _) q⟩
theorem m_split {a : Str} {e : D} (h : ∃ b : Str, e = .str b ∧ (b.length == 0) = false ∧ a.length + 2 ≤ sizeLine ∧ P (.lst ((Txt.split a b).map D.str))) :
    OM z (fun x xs H Q => ∃ a b, x = .str a ∧ xs = [.str b] ∧ (b.length == 0) = false ∧ a.length + 2 ≤ sizeLine ∧ rNewStrs (Txt.split a b) H Q) (.str a) [e] P := fun hs x xs H p rx rs Q w => by
  obtain ⟨b, rfl, h1, h2, q⟩ := h
  cases rx
  cases rs with
  | cons r rs =>
    cases rs
    cases r
    exact ⟨a, b, rfl, rfl, h1, h2, fun l n => new_w w p n (fun H' g1 _ => .lst g1 (strs_ra _)) q⟩
theorem m_upper {a : Str} (h : a.length ≤ 5592405 ∧ P (.str (Txt.upper a))) : OM z (fun x xs H Q => ∃ a, x = .str a ∧ xs = [] ∧ a.length ≤ 5592405 ∧ Q (.str (Txt.upper a)) H) (.str a) [] P := fun hs x xs H p rx rs Q w => by
  cases rx
  cases rs
  exact ⟨a, rfl, rfl, h.1, w.here p (.str _) h.2⟩
/-! ### tuples and lists -/
theorem o_slT {lo hi : Option Int} {d : D} (h : ∃ ds, d = .tup ds ∧ P (.tup (cutD ds lo hi))) : O1 z (fun x => rSlA K x lo hi) d P := fun hs x H p rx Q w => by
  obtain ⟨ds, rfl, q⟩ := h
  cases rx with
  | @tup a xs _ h1 h2 =>
    refine ⟨a, xs, rfl, .inl (.inl (hid_sub _ _ h1)), fun ⟨g1, g2⟩ => ?_, fun _ l n => new_w w p n (fun H' e1 e2 => .tup e1 (by
      unfold cutV cutD
      rw [h2.length]
      exact (((RA.mono e2 _ _ h2).drop _).take _))) q⟩
    have e : cutD ds lo hi = ds := by
      unfold cutD
      rw [h2.length] at g1 g2
      rw [g1, g2, List.drop_zero, Nat.sub_zero, List.take_length]
    rw [e] at q
    exact w.here p (.tup h1 h2) q
theorem o_catA {d e : D} (h : ∃ a b, d = .tup a ∧ e = .tup b ∧ a.length + b.length ≤ sizeLine ∧ P (.tup (a ++ b))) : O2 z (rCatA K) d e P := fun hs x y H p rx ry Q w => by
  obtain ⟨a, b, rfl, rfl, hl, q⟩ := h
  cases rx with
  | tup h1 h2 =>
    cases ry with
    | tup g1 g2 =>
      refine ⟨_, _, _, _, rfl, rfl, .inl (.inl (hid_sub _ _ h1)), .inl (.inl (hid_sub _ _ g1)), by rw [h2.length, g2.length]; exact hl, fun e => ?_, fun _ e => ?_, fun _ _ l n => new_w w p n (fun H' e1 e2 => .tup e1 ((RA.mono e2 _ _ h2).append (RA.mono e2 _ _ g2))) q⟩
      · subst e
        cases h2
        exact w.here p (.tup g1 g2) q
      · subst e
        cases g2
        rw [List.append_nil] at q
        exact w.here p (.tup h1 h2) q
theorem o_rep3 {d e : D} (h : ∃ (a : D) (k : Nat), d = .tup [a] ∧ e = .int k ∧ 2 ≤ k ∧ k ≤ 1000 ∧ P (.tup (List.replicate k a))) : O2 z (rRepT K) d e P := fun hs x y H p rx ry Q w => by
  obtain ⟨a, k, rfl, rfl, k2, hl, q⟩ := h
  cases ry
  cases rx with
  | tup h1 h2 =>
    cases h2 with
    | cons h2 h3 =>
      cases h3
      refine ⟨_, _, _, rfl, rfl, .inl (.inl (hid_sub _ _ h1)), by simp, by omega, by omega, by simp, fun l n => ?_⟩
      rw [Int.toNat_natCast, rep_flat]
      exact new_w w p n (fun H' e1 e2 => .tup e1 (RA.replicate (R.mono e2 _ _ h2) k)) q
theorem e_tupOf (h : E1 z ta ρ fun d => ∃ ds, (d = .lst ds ∨ d = .tup ds) ∧ P (.tup ds)) : E1 z (tThen ta (kTup K)) ρ P := fun hs σ H p s Q w =>
  h hs σ H p s _ fun x H1 d e1 p1 rx ⟨ds, he, q⟩ => by
    rcases he with rfl | rfl
    · cases rx with
      | lst h1 h2 => exact .inl ⟨_, _, rfl, .inl (.inl (hid_sub _ _ h1)), fun l n => new_w (w.back e1) p1 n (fun H' g1 g2 => .tup g1 (RA.mono g2 _ _ h2)) q⟩
    · cases rx with
      | tup h1 h2 => exact .inr ⟨_, _, rfl, .inl (.inl (hid_sub _ _ h1)), (w.back e1).here p1 (.tup h1 h2) q⟩
theorem o_listOf {ds : List D} (h : ∃ es, (ds = [.lst es] ∨ ds = [.tup es]) ∧ P (.lst es)) : OC z (fun xs H Q => ∃ p ys, xs = [.ref p] ∧ (SqL K H p ys ∨ SqT K H p ys) ∧ ∀ l, H l = none → Q (.ref l) (upd H l (.lst ys))) ds P := fun hs xs H p rs Q w => by
  obtain ⟨es, he, q⟩ := h
  rcases he with rfl | rfl
  · cases rs with
    | cons r rs =>
      cases rs
      cases r with
      | lst h1 h2 => exact ⟨_, _, rfl, .inl (.inl (.inl (hid_sub _ _ h1))), fun l n => new_w w p n (fun H' g1 g2 => .lst g1 (RA.mono g2 _ _ h2)) q⟩
  · cases rs with
    | cons r rs =>
      cases rs
      cases r with
      | tup h1 h2 => exact ⟨_, _, rfl, .inr (.inl (.inl (hid_sub _ _ h1))), fun l n => new_w w p n (fun H' g1 g2 => .lst g1 (RA.mono g2 _ _ h2)) q⟩
theorem ra_rev {H : Hp} {zz : Zp} : ∀ {ds : List D} {vs : List V}, RA zz H vs ds → RA zz H vs.reverse ds.reverse := fun h => RA.reverse h
theorem e_revL (h : E1 z te ρ fun d => ∃ ds, d = .lst ds ∧ P (.lst ds.reverse)) : E1 z (tRevL K te) ρ P := fun hs σ H p s Q w =>
  h hs σ H p s _ fun x H1 d e1 p1 rx ⟨ds, ed, q⟩ => by
    subst ed
    cases rx with
    | lst h1 h2 => exact ⟨_, _, rfl, .inl (.inl (hid_sub _ _ h1)), fun l n => new_w (w.back e1) p1 n (fun H' g1 g2 => .lst g1 (RA.mono g2 _ _ h2).reverse) q⟩
theorem o_isB {d e : D} (h : ∃ a b : Bool, d = .bl a ∧ e = .bl b ∧ P (.bl (decide (a = b)))) : O2 z (fun x y H Q => ∃ a b, x = .bl a ∧ y = .bl b ∧ Q (.bl (decide (a = b))) H) d e P := fun hs x y H p rx ry Q w => by
  obtain ⟨a, b, rfl, rfl, q⟩ := h
  cases rx; cases ry
  exact ⟨a, b, rfl, rfl, w.here p (.bl _) q⟩
/-! ### kinds -/
def tyD : D → Option String
  | .non => some "NoneType"
  | .bl _ => some "bool"
  | .int _ => some "int"
  | .str _ => some "str"
  | .lst _ => some "list"
  | .tup _ => some "tuple"
  | .dct _ => some "dict"
  | .dT => some "dict"
  | _ => none
theorem tyD_ok {H : Hp} {zz : Zp} {hs : Addr → Prop} {v : V} {d : D} {T : String} (h : tyD d = some T) (r : R zz (hid zz hs H) v d) : TyX K H v (.type T) := by
  cases d with
  | non => cases h; cases r; exact .base .non
  | bl b => cases h; cases r; exact .base (.bl b)
  | int i => cases h; cases r; exact .base (.int i)
  | str x => cases h; cases r; exact .base (.str x)
  | lst ds => cases h; cases r with | lst h1 _ => exact .base (.lst (hid_sub _ _ h1))
  | tup ds => cases h; cases r with | tup h1 _ => exact .base (.tup (hid_sub _ _ h1))
  | dct ds => cases h; cases r with | dct h1 _ => exact .base (.dK (hid_sub _ _ h1))
  | dT => cases h; cases r with | dT h1 => exact .base (.dT (hid_sub _ _ h1))
  | _ => cases h
theorem o_isTy {ds : List D} (h : ∃ d T n b, ds = [d, .raw (.ty n)] ∧ tyD d = some T ∧ kitB T n = some b ∧ P (.bl b)) : OC z (rIsi K) ds P := fun hs xs H p rs Q w => by
  obtain ⟨d, T, n, b, rfl, ht, hk, q⟩ := h
  cases rs with
  | cons r rs =>
    cases rs with
    | cons r2 rs =>
      cases rs
      cases r2
      exact ⟨_, _, _, _, b, rfl, .ty n, tyD_ok ht r, kit_ty hk, w.here p (.bl _) q⟩
theorem o_isTy2 {ds : List D} (h : ∃ d T n m b c, ds = [d, .tup [.raw (.ty n), .raw (.ty m)]] ∧ tyD d = some T ∧ kitB T n = some b ∧ kitB T m = some c ∧ P (.bl (b || c))) : OC z (rIsiT K) ds P := fun hs xs H p rs Q w => by
  obtain ⟨d, T, n, m, b, c, rfl, ht, hb, hc, q⟩ := h
  cases rs with
  | cons r rs =>
    cases rs with
    | cons r2 rs =>
      cases rs
      cases r2 with
      | tup h1 h2 =>
        cases h2 with
        | cons k1 h2 =>
          cases h2 with
          | cons k2 h2 =>
            cases h2
            cases k1
            cases k2
            refine ⟨_, _, _, _, [.type n, .type m], b || c, rfl, hid_sub _ _ h1, .cons (.ty n) (.cons (.ty m) .nil), tyD_ok ht r, ?_, w.here p (.bl _) q⟩
            refine kitAny_cons (kit_ty hb) (fun e => ?_) fun e => by rw [e]; rfl
            subst e
            refine kitAny_cons (kit_ty hc) (fun e => ?_) fun e => by rw [e]; rfl
            subst e
            exact kitAny_nil
/-! ### while -/
theorem x_while {tt : TT} {tb : TS} (h : ∃ W : Nat → List Sl → Prop, (∃ m, W m r) ∧ ∀ m ρ, W m ρ → ET z tt (ρ.map Sl.see) fun b => if b = true then X1 z tb ρ { out with nx := fun ρ' => ∃ m', m' < m ∧ W m' ρ', ct := fun ρ' => ∃ m', m' < m ∧ W m' ρ', bk := out.nx } else out.nx ρ) : X1 z (tWhile tt tb) r out := fun hs σ H O s F w => by
  obtain ⟨W, ⟨m0, w0⟩, turn⟩ := h
  refine ⟨fun m σ' H' => ∃ ρ' O', Nxt z O O' H H' ∧ St1 z hs H' σ' ρ' O' ∧ W m ρ', ⟨m0, r, O, Nxt.refl, s, w0⟩, ?_⟩
  rintro m σ' H' ⟨ρ', O', nx, s', hw⟩
  refine s'.seeT (turn m ρ' hw) fun b H1 e1 s1 h1 => ?_
  have n1 : Nxt z O O' H H1 := nx.trans (.of e1)
  cases b with
  | true =>
    rw [if_pos rfl] at h1 ⊢
    refine ⟨fun σ2 H2 => ∃ ρ2 O2, Nxt z O O2 H H2 ∧ St1 z hs H2 σ2 ρ2 O2 ∧ ∃ m', m' < m ∧ W m' ρ2, fun σ2 H2 ⟨ρ2, O2, n2, s2, m', lt, w2⟩ => ⟨m', lt, ρ2, O2, n2, s2, w2⟩, ?_⟩
    refine h1 hs σ' H1 O' s1 _ ⟨fun σ4 H4 ρ4 O4 n4 s4 q4 => ⟨ρ4, O4, n1.trans n4, s4, q4⟩, (w.back n1).rt, (w.back n1).nx, fun σ4 H4 ρ4 O4 n4 s4 q4 => ⟨ρ4, O4, n1.trans n4, s4, q4⟩, (w.back n1).ex⟩
  | false =>
    rw [if_neg (by decide)] at h1 ⊢
    exact w.nx _ _ _ O' n1 s1 h1
end
end PD

set_option Elab.async false
set_option linter.all false
set_option maxRecDepth 100000
set_option maxHeartbeats 4000000
/-! WS4: sorted(set(words)) and sorted(words, key=len): over the heap, then as rules of the layer. -/
namespace WS
open PySem PySem.Spec PySem.W PyProof.Rows L2
abbrev encP (p : Addr × List Str) : PyData := enc p.2
def lexL (L : List (Addr × List Str)) : List (Addr × List Str) := L.mergeSort (dataLe false encP)
def lenL (L : List (Addr × List Str)) : List (Addr × List Str) := L.mergeSort (dataLe false fun p => .int (p.2.length : Int))
theorem perm_lift {α β : Type} {f : α → β} {vs ws : List β} (h : vs.Perm ws) : ∀ L : List α, ws = L.map f → ∃ L1 : List α, L1.Perm L ∧ L1.map f = vs := by
  induction h with
  | nil => intro L e; cases L with
    | nil => exact ⟨[], .nil, rfl⟩
    | cons => cases e
  | cons x _ ih => intro L e; cases L with
    | nil => cases e
    | cons y L =>
      injection e with e1 e2
      obtain ⟨L1, p, e3⟩ := ih L e2
      exact ⟨y :: L1, p.cons y, by rw [List.map_cons, e3, e1]⟩
  | swap x y l => intro L e; cases L with
    | nil => cases e
    | cons a L => cases L with
      | nil => cases e
      | cons b L =>
        injection e with e1 e2
        injection e2 with e2 e3
        exact ⟨b :: a :: L, .swap a b L, by rw [List.map_cons, List.map_cons, ← e3, ← e1, ← e2]⟩
  | trans _ _ ih1 ih2 =>
    intro L e
    obtain ⟨L1, p1, e1⟩ := ih2 L e
    obtain ⟨L2, p2, e2⟩ := ih1 L1 e1.symm
    exact ⟨L2, p2.trans p1, e2⟩
def IsR (v : Value) (p : Addr × List Str) : Prop := v = .ref p.1
theorem each_refs : ∀ (L : List (Addr × List Str)), EachIs IsR (L.map fun p => Value.ref p.1) L
  | [] => .nil
  | _ :: L => .cons rfl (each_refs L)
theorem refs_each : ∀ {vs : List Value} {L : List (Addr × List Str)}, EachIs IsR vs L → vs = L.map fun p => Value.ref p.1
  | _, _, .nil => rfl
  | _, _, .cons h t => by rw [List.map_cons, ← refs_each t]; exact congrArg (· :: _) h
section
variable {P : Program} {w : World} {A : Around} {E : Value → Shared → Prop} {s : Shared}
theorem reads_items {h : Heap} : ∀ {k : List Str} {vs : List Value}, ItemsAre (strKind P w) k vs → ReadsAll h vs (k.map .str) []
  | [], _, x => by cases x; exact .nil
  | _ :: k, _, x => by
    cases x with
    | cons h1 h2 =>
      obtain ⟨t, rfl⟩ := Value.isStrOf_shape h1
      exact ReadsAll.cons (as := []) (bs := []) (.str _ _) (reads_items h2)
theorem Wk.reads {h : Heap} {k : List Str} {b : Addr} (x : Wk P w h k b) : ∃ as, Reads h (.ref b) (enc k) as := by
  obtain ⟨o, items, n, ho, hc, hd, hi⟩ := x
  exact ⟨_, .tuple ho hc hd (reads_items hi)⟩
theorem each_wk {h : Heap} : ∀ {L : List (Addr × List Str)}, (∀ p ∈ L, Wk P w h p.2 p.1) → EachIs (fun v p => ∃ as, Reads h v (encP p) as) (L.map fun p => Value.ref p.1) L
  | [], _ => .nil
  | p :: L, hk => .cons (hk p List.mem_cons_self).reads (each_wk fun q hq => hk q (List.mem_cons_of_mem _ hq))
theorem map_each {R : Value → List Str → Prop} : ∀ {vs : List Value} {L : List (Addr × List Str)}, EachIs (fun v p => R v p.2) vs L → EachIs R vs (L.map (·.2))
  | _, _, .nil => .nil
  | _, _, .cons h t => .cons h (map_each t)
variable {a : Addr} {L : List (Addr × List Str)} {es : Array (Int × Value)} {ep : Nat} {t : SetTable}
/-- sorted(set) -/
theorem sorted_set (R : Tb P w s.heap a L es ep t) (hh : A.handled = none) (hu : A.units + 8 < cLine) {Q : Value → Shared → Prop}
    (hQ : ∀ s' p c L1, (∀ b o, s.heap.get? b = some o → s'.heap.get? b = some o) → s'.gens = s.gens → s'.os = s.os → s.heap.objs.size ≤ p → L1.Perm L → s'.heap.get? p = some (seqObj "list" ((lexL L1).map fun q => Value.ref q.1).toArray c) → Q (.ref p) s') :
    wpAny (model P w) A (call (.builtin "sorted") [.ref a]) Q E s := by
  obtain ⟨o, ho, hex, hd⟩ := R.here
  have sl := rows_len R.rows
  have few := R.few
  refine Calls.call_function_entry kind_sorted plain_sorted entry_sorted (args_sorted1 _) ?_
  unfold Builtin.«sorted»
  refine wpAny_bind (m := checkCount "sorted" 1 1 _) (wpAny_pure ?_)
  refine wpAny_bind (collect_set (A := A.in1) hh ⟨o, ho, hex.1, hd⟩ R.fits (by unfold scanBound; omega) R.tab.ris R.led fun s1 vs k1 hz g1 o1 pm => ?_)
  have e0 : es.toList.map (·.2) = L.map fun q => Value.ref q.1 := by
    rw [R.rows, List.map_map]
    rfl
  rw [e0] at pm
  obtain ⟨L1, pL, rfl⟩ := perm_lift pm L rfl
  have len1 : (L1.map fun q => Value.ref q.1).length < 64 := by rw [List.length_map, pL.length_eq]; exact few
  refine wpAny_bind (wpAny_newList ?_ (by rw [sizeLine_eq]; omega))
  have hoL : (s1.heap.push (seqObj "list" (L1.map fun q => Value.ref q.1).toArray 0)).get? s1.heap.objs.size = some (seqObj "list" (L1.map fun q => Value.ref q.1).toArray 0) := Heap.get?_push_size _ rfl
  generalize hv : (L1.map fun q => Value.ref q.1) = vs at hoL len1
  have wk : ∀ p ∈ L1, Wk P w (sortingHeap (s1.heap.push (seqObj "list" vs.toArray 0)) s1.heap.objs.size vs) p.2 p.1 := fun p hp => (R.are p (pL.mem_iff.mp hp)).keep fun o e => by
    have e1 := k1 _ o e
    exact sortingHeap_old (Nat.ne_of_lt (Heap.lt_size e1)) (Heap.get?_push_of_some _ e1)
  have er := each_wk wk
  have ei := each_refs L1
  rw [hv] at er ei
  have hal : AllAlike (L1.map encP) := AllAlike.of fun _ _ => alike_enc _ _
  have S : SortsAt P w A.in1.in1 { s1 with heap := sortingHeap (s1.heap.push (seqObj "list" vs.toArray 0)) s1.heap.objs.size vs } (dataKind (sortingHeap (s1.heap.push (seqObj "list" vs.toArray 0)) s1.heap.objs.size vs) (L1.map encP)) vs := by
    have := sorts_words (prog := P) (w := w) (A := A.in1.in1) (s := { s1 with heap := sortingHeap (s1.heap.push (seqObj "list" vs.toArray 0)) s1.heap.objs.size vs }) (map_each (R := fun v b => ∃ as, Reads (sortingHeap (s1.heap.push (seqObj "list" vs.toArray 0)) s1.heap.objs.size vs) v (enc b) as) er) (by show A.units + 1 + 1 + 1 < _; omega)
    rw [List.map_map] at this
    exact this
  refine wpAny_bind (wpAny_holding (wpAny_call_entry slot_list_sort ⟨_, hoL, rfl⟩ entry_list_sort (list_sort_vals (s := { s1 with heap := s1.heap.push (seqObj "list" vs.toArray 0) }) hoL S (by rw [sizeLine_eq]; omega) ⟨.none, rfl, ?_⟩) (args_list_sort _)))
  have out := refs_each (sortVals_data (R := IsR) false ei er hal)
  rw [out]
  obtain ⟨c, hc⟩ := sortedHeap_at (vs := vs) (out := ((lexL L1).map fun q => Value.ref q.1).toArray) hoL
  refine wpAny_pure ⟨_, rfl, hQ _ s1.heap.objs.size c L1 (fun b u e => ?_) g1 o1 hz pL hc⟩
  have q := k1 b u e
  have lt := Heap.lt_size q
  show (sortedHeap (s1.heap.push (seqObj "list" vs.toArray 0)) s1.heap.objs.size vs _).get? b = some u
  rw [sortedHeap_old (Nat.ne_of_lt lt) (by rw [size_push']; exact Nat.lt_succ_of_lt lt)]
  exact Heap.get?_push_of_some _ q
/-- sorted(words, key=len) -/
theorem sorted_len {l : Addr} {L : List (Addr × List Str)} (hl : s.heap.IsList l (L.map fun p => Value.ref p.1).toArray) (hk : ∀ p ∈ L, Wk P w s.heap p.2 p.1) (hz : ∀ p ∈ L, p.2.length < 1000) (few : L.length ≤ sizeLine) (hu : A.units + 8 < cLine) {Q : Value → Shared → Prop}
    (hQ : ∀ h' tk c, (∀ b o, s.heap.get? b = some o → h'.get? b = some o) → s.heap.get? (s.heap.objs.size + 1) = none → h'.get? (s.heap.objs.size + 1) = some (seqObj "list" ((lenL L).map fun q => Value.ref q.1).toArray c) → Q (.ref (s.heap.objs.size + 1)) { s with heap := h', toks := tk }) :
    wpAny (model P w) A (call (.builtin "sorted") [.ref l] [(Str.ofString "key", .builtin "len")]) Q E s := by
  refine sorted_key_data (f := .builtin "len") (b := false) (fun p : Addr × List Str => .int (p.2.length : Int)) hl (each_refs L) (AllAlike.of fun _ _ => by simp [alike]) (Sortable.others fun _ => ⟨by simp, by simp⟩) few (fun p _ => by simp only [PyData.depth]; omega) (ksk_s1 _ _) (fun x => by unfold argsOk; kernel_rfl) (fun x => ksk_t4 _ x)
    (fun v p hv hp h tk kp => ?_) fun out c h' tk kp fr ho _ ei => ?_
  · obtain rfl : v = .ref p.1 := hv
    obtain ⟨o, items, n, ho, hc, hd, hi⟩ := (hk p hp).keep fun o e => kp _ o e
    have hn : items.size = p.2.length := by simpa using hi.length.symm
    have hs := hz p hp
    refine len_tuple (s := { s with heap := h, toks := tk }) (items := items) ⟨o, ho, hc, n, hd⟩ (by omega) ⟨h, _, rfl, fun _ _ e => e, ?_⟩
    rw [hn]
    exact .int _ _
  · rw [refs_each ei] at ho
    exact hQ h' tk c kp fr ho
end
/-! ### as rules -/
theorem items_strs {P : Program} {w : World} : ∀ {k : List Str} {us : List Value}, Vals (k.map V.str) us → ItemsAre (PySem.strKind P w) k us
  | [], _, .nil => .nil
  | x :: k, _, .cons r t => by
    obtain ⟨tk, rfl⟩ := r
    exact .cons (show Value.isStrOf x (.str x tk) = true by simp [Value.isStrOf]) (items_strs t)
theorem refs_vals : ∀ {ks : List (Addr × List Str)} {us : List Value}, Vals (ks.map fun p => V.ref p.1) us → us = ks.map fun p => Value.ref p.1
  | [], _, .nil => rfl
  | p :: ks, _, .cons r t => by
    cases r
    rw [refs_vals t]
    rfl
theorem vals_refs : ∀ (ks : List (Addr × List Str)), Vals (ks.map fun p => V.ref p.1) (ks.map fun p => Value.ref p.1)
  | [] => .nil
  | p :: ks => .cons rfl (vals_refs ks)
theorem inv_wk {X : Cx} {pins : List (Addr × Obj)} {σ : L2.St} {H : Hp} {s : Shared} {b : Addr} {k : List Str} (I : Inv X pins σ H s) (h : SqT X.K H b (k.map V.str)) : Wk X.prog X.w s.heap k b := by
  obtain ⟨its, r, ⟨o, ho, hc, n, hd⟩, _⟩ := I.tuple h
  exact ⟨o, its.toArray, n, ho, hc, hd, by simpa using items_strs r⟩
/-- sorted(set(e)) -/
def tSortSet (K : PySem.W.Frag) (te : TE) : TE := fun σ H Q => te σ H fun x H1 => ∃ (l : Addr) (ks : List (Addr × List Str)), x = V.ref l ∧ (SqL K H1 l (ks.map fun p => V.ref p.1) ∨ SqT K H1 l (ks.map fun p => V.ref p.1)) ∧ (∀ p ∈ ks, SqT K H1 p.1 (p.2.map V.str)) ∧ FewW ks ∧
  ∀ (L1 : List (Addr × List Str)) (p : Addr), (∀ q ∈ L1, q ∈ ks) → (L1.map (·.2)).Nodup → (∀ q ∈ ks, q.2 ∈ L1.map (·.2)) → H1 p = none → Q (.ref p) (upd H1 p (.lst ((lexL L1).map fun q => V.ref q.1)))
theorem pe_sortSet {X : Cx} {e : Expr} {te : TE} {p1 p2 q1 q2 : Pos} (hc : X.calm = true) (hu : X.A.units + 64 < cLine) (hg : Gl X "sorted") (hm : X.mg "sorted" = none) (hg2 : Gl X "set") (hm2 : X.mg "set" = none) (he : PE X e te)
    (na : starEach [e] X.env = (false, eval e X.env) :: starEach [] X.env := by rfl) : PE X (.Call (.Name "sorted" p1) [.Call (.Name "set" p2) [e] [] q2] [] q1) (tSortSet X.K te) := by
  refine ⟨fun pins s σ H Q I h => ?_⟩
  refine Call_ (ld_blt I hg hm boot_sorted ?_)
  refine PyProof.Rows.callWith_builtin1 (PyProof.Rows.args_cons ?_ rfl) rfl rfl
  refine Call_ (ld_blt I hg2 hm2 PyProof.Rows.boot_set ?_)
  refine PyProof.Rows.callWith_type1 (PyProof.Rows.args_cons (thn (he.run pins s σ H _ I h) fun v s1 ⟨x, H1, I1, r1, h1⟩ => PyProof.Rows.args_nil ?_) na) na rfl
  obtain ⟨l, ks, rfl, hq, hk, few, h1⟩ := h1
  cases r1
  have wk : ∀ p ∈ ks, Wk X.prog X.w s1.heap p.2 p.1 := fun p hp => inv_wk I1 (hk p hp)
  have next : ∀ (h' : Heap) (tk : Nat) L es ep t, Tb X.prog X.w h' s1.heap.objs.size L es ep t → Has ks ks.length L → (∀ b o, s1.heap.get? b = some o → h'.get? b = some o) →
      wpAny (model X.prog X.w) X.A (call (.builtin "sorted") [.ref s1.heap.objs.size]) (EP X pins σ Q) X.xe { s1 with heap := h', toks := tk } := fun h' tk L es ep t T g kp => by
    refine sorted_set (s := { s1 with heap := h', toks := tk }) T (I1.ok.hd hc) (by omega) fun s' p c L1 k2 g2 o2 hp pm ho => ?_
    have sub : ∀ q ∈ L1, q ∈ ks := fun q hq => List.mem_of_mem_take (g.sub q (pm.mem_iff.mp hq))
    have hlen : ((lexL L1).map fun q => V.ref q.1).length ≤ sizeLine := by
      rw [List.length_map, lexL, (List.mergeSort_perm _ _).length_eq, pm.length_eq, sizeLine_eq]
      have := T.few
      omega
    have kk : ∀ b o, s1.heap.get? b = some o → s'.heap.get? b = some o := fun b o e => k2 b o (kp b o e)
    have big : s1.heap.objs.size ≤ p := by
      obtain ⟨o, ho, _⟩ := T.here
      exact Nat.le_trans (Nat.le_of_lt (Heap.lt_size ho)) hp
    have nw : H1 p = none := I1.hok.fresh big
    have J : Inv X pins σ (upd H1 p (.lst ((lexL L1).map fun q => V.ref q.1))) { s1 with heap := s'.heap, gens := s'.gens, drawn := s'.drawn, toks := s'.toks } :=
      I1.call (ch := []) (Un.laid kk big nw) (I1.hok.laid kk big ⟨hlen, _, c, vals_refs _, ho⟩) (by rw [show s'.gens = s1.gens from g2]; exact I1.bare) (fun _ z => nomatch z)
    have e : s' = { s1 with heap := s'.heap, gens := s'.gens, drawn := s'.drawn, toks := s'.toks } := by
      cases s'
      cases s1
      cases o2
      rfl
    rw [e]
    refine ⟨.ref p, _, J, rfl, h1 L1 p sub ((pm.map (·.2)).nodup_iff.mpr T.one) (fun q hq => ?_) nw⟩
    exact (pm.map (·.2)).mem_iff.mpr (g.all q (by rw [List.take_length]; exact hq))
  rcases hq with hq | hq
  · obtain ⟨its, rv, pl, hz⟩ := I1.list hq
    exact set_list ks (I1.ok.hd hc) pl.isList (by simpa using refs_vals rv) wk few (by omega) fun h' tk L es ep t T g kp => PyProof.Rows.args_nil (next h' tk L es ep t T g kp)
  · obtain ⟨its, rv, pl, hz⟩ := I1.tuple hq
    exact set_tuple ks (I1.ok.hd hc) pl (by simpa using refs_vals rv) wk few (by omega) fun h' tk L es ep t T g kp => PyProof.Rows.args_nil (next h' tk L es ep t T g kp)
/-- sorted(e, key=len) -/
def tSortLen (K : PySem.W.Frag) (te : TE) : TE := fun σ H Q => te σ H fun x H1 => ∃ (l : Addr) (L : List (Addr × List Str)), [x] = [V.ref l] ∧ SqL K H1 l (L.map fun p => V.ref p.1) ∧ (∀ p ∈ L, SqT K H1 p.1 (p.2.map V.str) ∧ p.2.length < 1000) ∧ L.length ≤ 1000000 ∧
  ∀ p, H1 p = none → Q (.ref p) (upd H1 p (.lst ((lenL L).map fun q => V.ref q.1)))
theorem pe_sortLen {X : Cx} {e : Expr} {te : TE} {p1 p2 q1 q2 : Pos} (hu : X.A.units + 64 < cLine) (hg : Gl X "sorted") (hm : X.mg "sorted" = none) (hg2 : Gl X "len") (hm2 : X.mg "len" = none) (he : PE X e te)
    (na : starEach [e] X.env = (false, eval e X.env) :: starEach [] X.env := by rfl) (h1 : backTo q1 (starEach [e] X.env) = (false, eval e X.env) :: backTo q1 (starEach [] X.env) := by rfl) (hpl : (backTo q1 (starEach [e] X.env)).any (·.1) = false := by rfl) : PE X (.Call (.Name "sorted" p1) [e] [⟨some "key", .Name "len" p2, q2⟩] q1) (tSortLen X.K te) := by
  refine ⟨fun pins s σ H Q I h => ?_⟩
  refine wpAny_Call_Name_kw (ld_blt I hg hm boot_sorted ?_)
  refine PyProof.Rows.callWith_kw (thn ((pa_cons he pa_nil na).run q1 pins s σ H (fun vs H1 => ∃ (l : Addr) (L : List (Addr × List Str)), vs = [V.ref l] ∧ SqL X.K H1 l (L.map fun p : Addr × List Str => V.ref p.1) ∧ (∀ p ∈ L, SqT X.K H1 p.1 (p.2.map V.str) ∧ p.2.length < 1000) ∧ L.length ≤ 1000000 ∧
    ∀ p, H1 p = none → Q (.ref p) (upd H1 p (.lst ((lenL L).map fun q : Addr × List Str => V.ref q.1)))) I h) fun us s1 ⟨vs, H1, I1, r1, l, L, ev, hq, hk, few, h1⟩ => ?_) h1 hpl rfl rfl
  subst ev
  obtain rfl : us = [.ref l] := by
    cases r1 with
    | cons r1 r2 => cases r1; cases r2; rfl
  show wpAny _ _ (evalAll [(do let v ← eval (.Name "len" p2) X.env; standAt q1; pure v)]) _ _ s1
  refine wpAny_evalAll_cons (wpAny_bind (ld_blt I1 hg2 hm2 boot_len (wpAny_bind (wpAny_standAt (wpAny_pure (wpAny_evalAll_nil ?_))))))
  obtain ⟨its, rv, pl, hz⟩ := I1.list hq
  have e0 := refs_vals rv
  subst e0
  refine sorted_len pl.isList (fun p hp => inv_wk I1 (hk p hp).1) (fun p hp => (hk p hp).2) (by rw [sizeLine_eq]; omega) (by omega) fun h' tk c kp fr ho => ?_
  have hlen : ((lenL L).map fun q : Addr × List Str => V.ref q.1).length ≤ sizeLine := by
    rw [List.length_map, lenL, (List.mergeSort_perm _ _).length_eq, sizeLine_eq]
    omega
  have big : s1.heap.objs.size ≤ s1.heap.objs.size + 1 := Nat.le_succ _
  exact ⟨.ref _, upd H1 (s1.heap.objs.size + 1) (.lst ((lenL L).map fun q : Addr × List Str => V.ref q.1)), I1.laid (t' := tk) kp big ⟨hlen, _, c, vals_refs _, ho⟩, rfl, h1 _ (I1.hok.fresh big)⟩
end WS

set_option Elab.async false
set_option linter.all false
set_option maxRecDepth 100000
set_option maxHeartbeats 4000000
/-! PD10: new lists: told by calls, comprehensions, sortings; keywords of defs; small dicts. -/
namespace PD
open PySem PySem.Spec PyProof.Rows L2
section
variable {z : Zp} {hs : Addr → Prop} {ρ : List (Option D)} {P P' : D → Prop} {PL : List D → Prop} {PB : Bool → Prop} {te ta tb tc : TE} {tr tk : TA} {tt tu : TT} {H H1 : Hp} {Q : VK} {K : PySem.W.Frag} {out : Out} {r : List Sl} {E : XK}
theorem n_lc {wi : TI} {g : TG} {vs : List Nat} (h : EI z wi ρ fun n f => n ≤ 1000000 ∧ ∃ W : Nat → List D → Prop, W 0 [] ∧ (∀ i acc, i < n → acc.length ≤ i → W i acc → GE z vs g (wipeD ρ vs) (f i) fun ρ' => ET z tt ρ' fun b => if b = true then E1 z te ρ' fun d => W (i + 1) (acc ++ [d]) else W (i + 1) acc) ∧
    ∀ acc, acc.length ≤ n → W n acc → PL acc) : E1N z (tLc wi g tt te vs) ρ PL := fun hs σ H p s Q w =>
  h hs σ H p s _ fun J H1 n f e1 p1 wk ⟨hn, W, w0, w1, w2⟩ => by
    intro Dl nD
    obtain ⟨o1, o2⟩ := p1.off nD
    let hs' : Addr → Prop := fun a => hs a ∨ a = Dl
    have s1 := s.mono (exz_hid (hs := hs) e1)
    refine ⟨fun i m H' => m = n - i ∧ i ≤ n ∧ ExZ z H1 H' ∧ Ok z hs' H' ∧ ∃ av ad, H' Dl = some (.lst av) ∧ RA z (hid z hs' H') av ad ∧ ad.length ≤ i ∧ W i ad,
      ⟨n, rfl, Nat.zero_le _, ExZ.new nD, ⟨(p1.new nD).pot, fun a ha => ?_⟩, [], [], upd_same, .nil, Nat.le_refl _, w0⟩, ?_⟩
    · rcases ha with ha | ha
      · exact (p1.new nD).tr a ha
      · subst ha
        exact ⟨o1, _, upd_same, fun _ h => by cases h⟩
    rintro i m H' ⟨rfl, hi, ex, p', av, ad, hD, ra, hl, hw⟩
    obtain ⟨q1, q2⟩ := wk hs' H' p' (fun a o n1 n2 ha => ⟨ex a o n1 ha, by
      rintro (q | q)
      · exact n2 q
      · rw [q, nD] at ha; cases ha⟩) i
    by_cases hlt : i < n
    · obtain ⟨g1, g2⟩ := q1 hlt
      refine .inr ⟨g1, fun H2 => ExZ z H1 H2 ∧ Ok z hs' H2 ∧ ∃ av ad, H2 Dl = some (.lst av) ∧ RA z (hid z hs' H2) av ad ∧ ad.length ≤ i + 1 ∧ W (i + 1) ad, fun H2 q => ⟨n - (i + 1), by omega, rfl, hlt, q⟩, fun x H2 y => ?_⟩
      obtain ⟨xe, ok2, r⟩ := g2 x H2 y
      have e2 : ExZ z H' H2 := .of xe
      have p2 : Ok z hs' H2 := ok2
      have ex2 := ex.trans e2
      have s2 : SR z (hid z hs' H2) (wipe σ vs) (wipeD ρ vs) := (s1.mono fun a o ha => by
        obtain ⟨m1, m2, ha⟩ := hid_some ha
        rw [hid_ne m1 (by
          rintro (q | q)
          · exact m2 q
          · rw [q, nD] at ha; cases ha)]
        exact ex2 a o m1 ha).wipe vs
      refine w1 i ad hlt hl hw hs' _ H2 p2 s2 x r _ fun σ3 H3 ρ3 e3 p3 s3 hwp q3 => ⟨by rw [hwp, wipe_idem], ?_⟩
      refine q3 hs' σ3 H3 p3 s3 _ fun b H4 e4 p4 q4 => ?_
      have nDl : ¬ z.at Dl := o1
      have ex4 := e2.trans (e3.trans e4)
      cases b with
      | true =>
        rw [if_pos rfl] at q4 ⊢
        refine q4 hs' σ3 H4 p4 (s3.mono (exz_hid e4)) _ fun v H5 d e5 p5 r5 q5 => ?_
        have ex5 := ex4.trans e5
        have hD5 := ex5 Dl _ nDl hD
        have hidE : hid z hs' (upd H5 Dl (.lst (av ++ [v]))) = hid z hs' H5 := hid_upd (.inr (.inr rfl))
        refine ⟨av, hD5, ?_, fun a o m ha => ?_, ⟨?_, ?_⟩, av ++ [v], ad ++ [d], upd_same, ?_, by simp; omega, q5⟩
        · rw [ra.length]
          exact Nat.lt_of_le_of_lt hl (Nat.lt_of_lt_of_le (Nat.lt_of_lt_of_le hlt hn) (by decide))
        · rw [upd_ne (ne_of_none ha nD)]
          exact (ex.trans ex5) a o m ha
        · exact p5.pot.upd nDl hD5
        · exact fun a ha => by
            obtain ⟨n1, o, ho, nt⟩ := p5.tr a ha
            by_cases e : a = Dl
            · subst e
              exact ⟨n1, _, upd_same, fun _ h => by cases h⟩
            · exact ⟨n1, o, by rw [upd_ne e]; exact ho, nt⟩
        · rw [hidE]
          exact (RA.mono (exz_hid ex5) _ _ ra).append (.cons r5 .nil)
      | false =>
        rw [if_neg (by decide)] at q4 ⊢
        exact ⟨ex.trans ex4, p4, av, ad, ex4 Dl _ nDl hD, RA.mono (exz_hid ex4) _ _ ra, by omega, q4⟩
    · have : i = n := by omega
      subst this
      have n0 : H Dl = none := by
        cases h0 : H Dl with
        | none => rfl
        | some o => rw [e1 Dl o o1 h0] at nD; cases nD
      exact .inl ⟨q2 (Nat.le_refl _), w Dl av H' ad (e1.trans ex) ⟨p'.pot, fun a ha => p'.tr a (.inl ha)⟩ n0 hD ra (w2 ad hl hw)⟩

theorem e_of_n (h : E1N z te ρ fun ds => P (.lst ds)) : E1 z te ρ P := fun hs σ H p s Q w =>
  h hs σ H p s Q fun a vs H' ds e p' n ha rs q => by
    obtain ⟨n1, n2⟩ := p.off n
    refine w _ H' _ e p' (.lst ?_ (RA.mono (hid_less fun b hb => .inl hb) _ _ rs)) q
    rw [hid_ne n1 n2]
    exact ha
theorem n_imp {PL' : List D → Prop} (h : E1N z te ρ PL) (i : ∀ ds, PL ds → PL' ds) : E1N z te ρ PL' := fun hs σ H p s Q w => h hs σ H p s Q fun a vs H' ds e p' n ha rs q => w a vs H' ds e p' n ha rs (i ds q)
/-- a new list's value goes on to a one-place operation that makes a new list of the same items -/
theorem n_listOf (h : EA z tr ρ fun ds => ∃ es, (ds = [.lst es] ∨ ds = [.tup es]) ∧ PL es) : E1N z (tCB (fun xs H Q => ∃ p ys, xs = [.ref p] ∧ (SqL K H p ys ∨ SqT K H p ys) ∧ ∀ l, H l = none → Q (.ref l) (upd H l (.lst ys))) tr) ρ PL := fun hs σ H p s Q w =>
  h hs σ H p s _ fun xs H1 ds e1 p1 rs ⟨es, he, q⟩ => by
    rcases he with rfl | rfl
    · cases rs with
      | cons r rs =>
        cases rs
        cases r with
        | lst h1 h2 => exact ⟨_, _, rfl, .inl (.inl (.inl (hid_sub _ _ h1))), new_n w e1 p1 h2 q⟩
    · cases rs with
      | cons r rs =>
        cases rs
        cases r with
        | tup h1 h2 => exact ⟨_, _, rfl, .inr (.inl (.inl (hid_sub _ _ h1))), new_n w e1 p1 h2 q⟩
/-! ### defs that give a new list -/
def spN (n : Nat) (Pre : List D → Prop) (Post : List D → List D → Prop) : Sp := fun vs H Q _ => ∃ z hs ds, ds.length = n ∧ Pre ds ∧ Ok z hs H ∧ RA z (hid z hs H) vs ds ∧
  ∀ p us H' es, ExZ z H H' → Ok z hs H' → H p = none → H' p = some (.lst us) → RA z (hid z (fun a => hs a ∨ a = p) H') us es → Post ds es → Q (.ref p) H'
theorem spN_len {n : Nat} {Pre : List D → Prop} {Post : List D → List D → Prop} (vs : List V) (H : Hp) (Q : VK) (E : XK) (h : spN n Pre Post vs H Q E) : vs.length = n := by
  obtain ⟨z, hs, ds, hl, _, _, r, _⟩ := h
  rw [r.length, hl]
theorem n_call {n : Nat} {Pre : List D → Prop} {Post : List D → List D → Prop} (h : EA z tr ρ fun ds => ds.length = n ∧ Pre ds ∧ ∀ es, Post ds es → PL es) : E1N z (tCall (spN n Pre Post) [] E tr) ρ PL := fun hs σ H p s Q w =>
  h hs σ H p s _ fun vs H1 ds e1 p1 rs ⟨hn, hp, hq⟩ => ⟨z, hs, ds, hn, hp, p1, by rw [List.append_nil]; exact rs, fun a us H' es e p' n ha ra q => w a us H' es (e1.trans e) p' (by
    cases h0 : H a with
    | none => rfl
    | some o => rw [e1 a o (p1.off n).1 h0] at n; cases n) ha ra (hq es q)⟩
theorem n_callK {n : Nat} {Pre : List D → Prop} {Post : List D → List D → Prop} {gV : List V → List V → List V} {gD : List D → List D → List D} (hg : ∀ {zz : Zp} {H : Hp} {vs zs : List V} {ds es : List D}, RA zz H vs ds → RA zz H zs es → RA zz H (gV vs zs) (gD ds es))
    (h : EA z tr ρ fun ds => EA z tk ρ fun es => (gD ds es).length = n ∧ Pre (gD ds es) ∧ ∀ xs, Post (gD ds es) xs → PL xs) : E1N z (tCallK (spN n Pre Post) gV E tr tk) ρ PL := fun hs σ H p s Q w =>
  h hs σ H p s _ fun vs H1 ds e1 p1 rs h1 => h1 hs σ H1 p1 (s.mono (exz_hid e1)) _ fun zs H2 es e2 p2 rz ⟨hn, hp, hq⟩ => ⟨z, hs, gD ds es, hn, hp, p2, hg (RA.mono (exz_hid e2) _ _ rs) rz, fun a us H' xs e p' n ha ra q => w a us H' xs ((e1.trans e2).trans e) p' (by
    cases h0 : H a with
    | none => rfl
    | some o => rw [(e1.trans e2) a o (p2.off n).1 h0] at n; cases n) ha ra (hq xs q)⟩
theorem e_callK {n : Nat} {Pre : List D → Prop} {Post : List D → D → Prop} {gV : List V → List V → List V} {gD : List D → List D → List D} (hg : ∀ {zz : Zp} {H : Hp} {vs zs : List V} {ds es : List D}, RA zz H vs ds → RA zz H zs es → RA zz H (gV vs zs) (gD ds es))
    (h : EA z tr ρ fun ds => EA z tk ρ fun es => (gD ds es).length = n ∧ Pre (gD ds es) ∧ ∀ d, Post (gD ds es) d → P d) : E1 z (tCallK (spD n Pre Post) gV E tr tk) ρ P := fun hs σ H p s Q w =>
  h hs σ H p s _ fun vs H1 ds e1 p1 rs h1 => h1 hs σ H1 p1 (s.mono (exz_hid e1)) _ fun zs H2 es e2 p2 rz ⟨hn, hp, hq⟩ => ⟨z, hs, gD ds es, hn, hp, p2, hg (RA.mono (exz_hid e2) _ _ rs) rz, (w.back (e1.trans e2)).imp hq⟩
/-- a body that ends by giving a new list -/
def XN (z : Zp) (ts : TS) (ρ : List (Option D)) (PL : List D → Prop) : Prop := ∀ hs σ H, Ok z hs H → SR z (hid z hs H) σ ρ → ∀ F : Ends,
  (∀ p vs H' ds, ExZ z H H' → Ok z hs H' → H p = none → H' p = some (.lst vs) → RA z (hid z (fun a => hs a ∨ a = p) H') vs ds → PL ds → F.rt (.ref p) H') → ts F σ H
theorem xn_ret (h : E1N z te ρ PL) : XN z (tRet te) ρ PL := fun hs σ H p s F w => h hs σ H p s _ w
theorem xn_drop {t : TS} (h : E1 z te ρ fun _ => XN z t ρ PL) : XN z (tSeq (tDrop te) t) ρ PL := fun hs σ H p s F w =>
  h hs σ H p s _ fun v H1 d e1 p1 r q => q hs σ H1 p1 (s.mono (exz_hid e1)) _ fun a vs H' ds e p' n ha ra q => w a vs H' ds (e1.trans e) p' (by
    cases h0 : H a with
    | none => rfl
    | some o => rw [e1 a o (p1.off n).1 h0] at n; cases n) ha ra q
end
section
variable {P : Program} {w : World} {K : PySem.W.Frag} {mg : Str → Option Value} {base : Heap} {k : Nat} {f : Addr} {x qual : Str} {st : Stmt} {fd : FuncData} {N ps : List Str} {n : Nat} {Pre : List D → Prop} {Post : List D → List D → Prop}
theorem okN (F : Fun K x qual st f fd) (S : FnScope N ps (defScope st)) (hn : n = ps.length)
    (h : ∀ (cdv : Value) (A : Around) (outer : List Env) (s : Shared) (H : Hp) (E : XK), Room k (A.deeper (envOfC qual (defScope st) s.heap.objs.size f cdv)) →
      ∃ t, PSs (cxOf CX0 P w K mg base N qual (defScope st) f cdv A outer s H E).nox (defBody st) t ∧ ∀ z ds, ds.length = n → Pre ds → XN z t (startD N ds) (Post ds)) :
    FnOk P w K mg base CX0 (k + 1) f fd ps (spN n Pre Post) := by
  refine F.ok S (fun vs H Q E q => by rw [spN_len vs H Q E q, hn]) (fun cdv A outer s H vs Q E hr q => ?_)
  obtain ⟨t, h1, h2⟩ := h cdv A outer s H E hr
  obtain ⟨z, hs, ds, hl, hp, p, r, w⟩ := q
  exact ⟨t, h1, h2 z ds hl hp hs _ H p (sr_start r) _ w⟩
end
/-! ### calls of defs by keywords alone -/
section
variable {X : Cx} {CX : CXT} {k : Nat} {f : Addr} {fd : FuncData} {ps ks : List Str} {sp : Sp} {E : XK} {x : Str} {p pos : Pos} {kws : List Keyword} {tk : TA} {g : List Value → List Value → List Value} {gV : List V → List V → List V}
theorem pe_callK0 (F : FnOk X.prog X.w X.K X.mg X.base CX k f fd ps sp) (hr : Room k X.A) (hg : Gl X x) (hm : X.mg x = some (.ref f)) (hk : PySem.W.keepIn X.K (.ref f) = true) (hb : KBinds X.K fd ps ks g gV) (hx : Passes CX X E) (hkw : PK X kws tk)
    (hall : (backToKw pos (keywordEach kws X.env)).all (·.1.isSome) = true := by rfl) (hks : (backToKw pos (keywordEach kws X.env)).filterMap (·.1) = ks := by rfl)
    (hdb : (x == ("__debug__" : Str)) = false := by decide) (hpl : ((backTo pos (starEach [] X.env)).any (·.1) || (backToKw pos (keywordEach kws X.env)).any (·.1.isNone)) = false := by rfl) :
    PE X (.Call (.Name x p) [] kws pos) (tCallK sp gV E tNil tk) := by
  refine ⟨fun pins s σ H Q I h => ?_⟩
  refine wpAny_Call_Name_kw (ld_glob I hg hm ?_ hdb)
  refine PySem.W.callWith_KW0 (h₀ := X.base) I.ok.mod.kin hk hall (thn (hkw.run pos pins s σ H _ I h) fun ws s2 ⟨zs, H2, I2, rz, q2⟩ => ⟨I2.kIn, ?_⟩) hpl
  rw [hks]
  exact run_fnk (us := []) (vs := []) F hr hb hx I2 .nil rz q2
end
/-- the keywords alone, in the parameters' order | backwards -/
def kwF {α : Type} (n : Nat) (us ws : List α) : List α := match us with
  | [] => if ws.length = n then ws else []
  | _ => []
def kwR {α : Type} (n : Nat) (us ws : List α) : List α := match us with
  | [] => if ws.length = n then ws.reverse else []
  | _ => []
theorem vals_rev {zs : List V} {ws : List Value} (q : Vals zs ws) : Vals zs.reverse ws.reverse := by
  induction q with
  | nil => exact .nil
  | cons h _ ih => simp only [List.reverse_cons]; exact ih.append (.cons h .nil)
theorem kwF_rel {n : Nat} {vs : List V} {us : List Value} {zs : List V} {ws : List Value} (r : Vals vs us) (q : Vals zs ws) : Vals (kwF n vs zs) (kwF n us ws) := by
  have hl := q.length
  cases r with
  | nil =>
    show Vals (if zs.length = n then _ else []) (if ws.length = n then _ else [])
    by_cases c : zs.length = n
    · rw [if_pos c, if_pos (by rw [← hl]; exact c)]
      exact q
    · rw [if_neg c, if_neg (by rw [← hl]; exact c)]
      exact .nil
  | cons _ _ => exact .nil
theorem kwR_rel {n : Nat} {vs : List V} {us : List Value} {zs : List V} {ws : List Value} (r : Vals vs us) (q : Vals zs ws) : Vals (kwR n vs zs) (kwR n us ws) := by
  have hl := q.length
  cases r with
  | nil =>
    show Vals (if zs.length = n then _ else []) (if ws.length = n then _ else [])
    by_cases c : zs.length = n
    · rw [if_pos c, if_pos (by rw [← hl]; exact c)]
      exact vals_rev q
    · rw [if_neg c, if_neg (by rw [← hl]; exact c)]
      exact .nil
  | cons _ _ => exact .nil
theorem kwF_len {α : Type} {n : Nat} (hn : 0 < n) {us ws : List α} (h : (kwF n us ws).length = n) : us = [] ∧ ws.length = n ∧ kwF n us ws = ws := by
  unfold kwF at h ⊢
  split at h
  · split at h
    · rename_i c
      exact ⟨rfl, c, if_pos c⟩
    · simp at h; omega
  · simp at h; omega
theorem kwR_len {α : Type} {n : Nat} (hn : 0 < n) {us ws : List α} (h : (kwR n us ws).length = n) : us = [] ∧ ws.length = n ∧ kwR n us ws = ws.reverse := by
  unfold kwR at h ⊢
  split at h
  · split at h
    · rename_i c
      exact ⟨rfl, c, if_pos c⟩
    · simp at h; omega
  · simp at h; omega
theorem kwF_ra {zz : Zp} {H : Hp} {n : Nat} {vs zs : List V} {ds es : List D} (r : RA zz H vs ds) (q : RA zz H zs es) : RA zz H (kwF n vs zs) (kwF n ds es) := by
  have hl := q.length
  cases r with
  | nil =>
    show RA zz H (if zs.length = n then _ else []) (if es.length = n then _ else [])
    by_cases c : zs.length = n
    · rw [if_pos c, if_pos (by rw [← hl]; exact c)]
      exact q
    · rw [if_neg c, if_neg (by rw [← hl]; exact c)]
      exact .nil
  | cons _ _ => exact .nil
theorem kwR_ra {zz : Zp} {H : Hp} {n : Nat} {vs zs : List V} {ds es : List D} (r : RA zz H vs ds) (q : RA zz H zs es) : RA zz H (kwR n vs zs) (kwR n ds es) := by
  have hl := q.length
  cases r with
  | nil =>
    show RA zz H (if zs.length = n then _ else []) (if es.length = n then _ else [])
    by_cases c : zs.length = n
    · rw [if_pos c, if_pos (by rw [← hl]; exact c)]
      exact RA.reverse q
    · rw [if_neg c, if_neg (by rw [← hl]; exact c)]
      exact .nil
  | cons _ _ => exact .nil
/-! ### sortings of words -/
def wd (k : List Str) : D := .tup (k.map D.str)
def lexW (us : List (List Str)) : List (List Str) := us.mergeSort (PySem.W.dataLe false WS.enc)
def lenW (us : List (List Str)) : List (List Str) := us.mergeSort (PySem.W.dataLe false fun k => .int (k.length : Int))
theorem lexL_map (L : List (Addr × List Str)) : (WS.lexL L).map (·.2) = lexW (L.map (·.2)) := List.map_mergeSort fun _ _ _ _ => rfl
theorem lenL_map (L : List (Addr × List Str)) : (WS.lenL L).map (·.2) = lenW (L.map (·.2)) := List.map_mergeSort fun _ _ _ _ => rfl
theorem words_at {zz : Zp} {H : Hp} {K : PySem.W.Frag} : ∀ {ws : List (List Str)} {vs : List V}, RA zz H vs (ws.map wd) → ∃ ks : List (Addr × List Str), vs = ks.map (fun p => V.ref p.1) ∧ ks.map (·.2) = ws ∧ ∀ p ∈ ks, H p.1 = some (.tup (p.2.map V.str))
  | [], _, h => by cases h; exact ⟨[], rfl, rfl, fun _ h => nomatch h⟩
  | w :: ws, _, h => by
    cases h with
    | cons h1 h2 =>
      obtain ⟨ks, rfl, e2, e3⟩ := words_at (K := K) h2
      cases h1 with
      | @tup a xs _ g1 g2 =>
        have e := ra_strs w _ g2
        subst e
        refine ⟨(a, w) :: ks, rfl, by rw [List.map_cons, e2], fun p hp => ?_⟩
        rcases List.mem_cons.mp hp with rfl | hp
        · exact g1
        · exact e3 p hp
theorem at_words {zz : Zp} {H : Hp} : ∀ {L : List (Addr × List Str)}, (∀ p ∈ L, H p.1 = some (.tup (p.2.map V.str))) → RA zz H (L.map fun p => V.ref p.1) ((L.map (·.2)).map wd)
  | [], _ => .nil
  | p :: L, h => .cons (.tup (h p List.mem_cons_self) (strs_ra _)) (at_words fun q hq => h q (List.mem_cons_of_mem _ hq))
section
variable {z : Zp} {ρ : List (Option D)} {P : D → Prop} {PL : List D → Prop} {te : TE} {K : PySem.W.Frag}
theorem e_sortSet (h : E1 z te ρ fun d => ∃ ws : List (List Str), (d = .lst (ws.map wd) ∨ d = .tup (ws.map wd)) ∧ (∀ us : List (List Str), us.Nodup → (∀ k ∈ us, k ∈ ws) → us.length < 64) ∧ ∀ us : List (List Str), us.Nodup → (∀ k, k ∈ us ↔ k ∈ ws) → P (.lst ((lexW us).map wd))) : E1 z (WS.tSortSet K te) ρ P := fun hs σ H p s Q w =>
  h hs σ H p s _ fun x H1 d e1 p1 rx ⟨ws, he, hl, q⟩ => by
    have go : ∀ (a : Addr) (vs : List V), RA z (hid z hs H1) vs (ws.map wd) → (SqL K H1 a vs ∨ SqT K H1 a vs) → ∃ (l : Addr) (ks : List (Addr × List Str)), V.ref a = V.ref l ∧ (SqL K H1 l (ks.map fun p => V.ref p.1) ∨ SqT K H1 l (ks.map fun p => V.ref p.1)) ∧ (∀ p ∈ ks, SqT K H1 p.1 (p.2.map V.str)) ∧ WS.FewW ks ∧
        ∀ (L1 : List (Addr × List Str)) (p : Addr), (∀ q ∈ L1, q ∈ ks) → (L1.map (·.2)).Nodup → (∀ q ∈ ks, q.2 ∈ L1.map (·.2)) → H1 p = none → Q (.ref p) (upd H1 p (.lst ((WS.lexL L1).map fun q => V.ref q.1))) := fun a vs rs hq => by
      obtain ⟨ks, rfl, e2, e3⟩ := words_at (K := K) rs
      have hlen : ks.length = ws.length := by rw [← e2, List.length_map]
      refine ⟨a, ks, rfl, hq, fun p hp => .inl (.inl (hid_sub _ _ (e3 p hp))), fun L nd sub => by
        have := hl (L.map (·.2)) nd fun k hk => by
          obtain ⟨p, hp, rfl⟩ := List.mem_map.mp hk
          rw [← e2]
          exact List.mem_map.mpr ⟨p, sub p hp, rfl⟩
        rwa [List.length_map] at this, fun L1 b sub nd all nb => ?_⟩
      have memL : ∀ p ∈ WS.lexL L1, H1 p.1 = some (.tup (p.2.map V.str)) ∧ hid z hs H1 p.1 = some (.tup (p.2.map V.str)) := fun p hp => by
        have := e3 p (sub p ((List.mergeSort_perm _ _).mem_iff.mp hp))
        exact ⟨hid_sub _ _ this, this⟩
      refine new_w (w.back e1) p1 nb (d := .lst ((lexW (L1.map (·.2))).map wd)) (fun H' g1 g2 => .lst g1 ?_) (q _ nd fun k => ⟨fun hk => ?_, fun hk => ?_⟩)
      · rw [← lexL_map]
        exact at_words fun p hp => g2 _ _ (memL p hp).2
      · obtain ⟨p, hp, rfl⟩ := List.mem_map.mp hk
        rw [← e2]
        exact List.mem_map.mpr ⟨p, sub p hp, rfl⟩
      · rw [← e2] at hk
        obtain ⟨p, hp, rfl⟩ := List.mem_map.mp hk
        exact all p hp
    rcases he with rfl | rfl
    · cases rx with
      | lst h1 h2 => exact go _ _ h2 (.inl (.inl (.inl (hid_sub _ _ h1))))
    · cases rx with
      | tup h1 h2 => exact go _ _ h2 (.inr (.inl (.inl (hid_sub _ _ h1))))
theorem n_sortLen (h : E1 z te ρ fun d => ∃ ws : List (List Str), d = .lst (ws.map wd) ∧ (∀ k ∈ ws, k.length < 1000) ∧ ws.length ≤ 1000000 ∧ PL ((lenW ws).map wd)) : E1N z (WS.tSortLen K te) ρ PL := fun hs σ H p s Q w =>
  h hs σ H p s _ fun x H1 d e1 p1 rx ⟨ws, ed, hz, hl, q⟩ => by
    subst ed
    cases rx with
    | @lst a xs _ h1 h2 =>
      obtain ⟨ks, rfl, e2, e3⟩ := words_at (K := K) h2
      have hlen : ks.length = ws.length := by rw [← e2, List.length_map]
      refine ⟨a, ks, rfl, .inl (.inl (hid_sub _ _ h1)), fun p hp => ⟨.inl (.inl (hid_sub _ _ (e3 p hp))), hz _ (by rw [← e2]; exact List.mem_map.mpr ⟨p, hp, rfl⟩)⟩, by omega, ?_⟩
      refine new_n w e1 p1 (ds := (lenW ws).map wd) ?_ q
      rw [← e2, ← lenL_map]
      exact at_words fun p hp => e3 p ((List.mergeSort_perm _ _).mem_iff.mp hp)
end
end PD

set_option Elab.async false
set_option linter.all false
set_option maxRecDepth 100000
set_option maxHeartbeats 4000000
/-! PX4: enumerate of a tuple; of a list or a tuple. -/
namespace PX
open PySem
section
variable {prog : Program} {w : World} {A : Around} {E : Value → Shared → Prop} {s : Shared}
theorem next_tup {it t : Addr} {i : Nat} {items : Array Value} {Q : Value → Shared → Prop} (hit : s.heap.IsTupleIter it t i) (ht : s.heap.IsTuple t items)
    (yes : ∀ x, items[i]? = some x → ∀ h', h'.IsTupleIter it t (i + 1) → Heap.SameBut it s.heap h' → Q x { s with heap := h' })
    (no : items[i]? = none → A.handled = none ∧ ∀ h' e, Heap.ExtBut it s.heap h' → (∃ o, h'.get? e = some o ∧ o.cls = .type "StopIteration") → E (.ref e) { s with heap := h' }) :
    wpAny (model prog w) A (Builtin.SmallTypes.nextOf (.ref it)) Q E s := by
  obtain ⟨o, ho, hc, hd⟩ := id hit
  obtain ⟨ot, hot, _, nt, hdt⟩ := ht
  unfold Builtin.SmallTypes.nextOf
  refine wpAny_bind (wpAny_callSpecial?_slot (name := Str.ofString "__next__") hit.typeIs F.slot_tuple_iterator_next
    (wpAny_call_entry F.slot_tuple_iterator_next hit.typeIs F.entry_tuple_iterator_next ?_ (F.args_tuple_iterator_next_1 _)))
  refine wpAny_bind (m := field (.ref it) 0) (wpAny_field ho hd (x := .ref t) rfl ?_)
  show wpAny _ _ (if (Value.ref t == Value.none) = true then _ else _) _ _ s
  rw [if_neg (show ¬ ((Value.ref t == Value.none) = true) from Bool.false_ne_true)]
  refine wpAny_bind (m := field (.ref it) 1) (wpAny_field ho hd (x := .int i 0) rfl ?_)
  refine wpAny_bind (m := seqItems? (.ref t)) (wpAny_seqItems hot hdt ?_)
  cases hx : items[i]? with
  | some x =>
    simp only [Int.toNat_natCast, hx]
    refine wpAny_bind (wpAny_setField ho hd (by simp) (wpAny_pure ⟨x, rfl, wpAny_pure (yes x hx _ ?_ (Heap.SameBut.update ..))⟩))
    exact ⟨_, Heap.get?_update_self _ ho (Obj.isFreed_of_fields (Obj.data_mapFields hd _)), (Obj.cls_mapFields ..).trans hc, by
      rw [Obj.data_mapFields hd]; simp [rawInt]⟩
  | none =>
    obtain ⟨hh, no⟩ := no hx
    simp only [Int.toNat_natCast, hx]
    refine wpAny_bind (wpAny_rule (wpAny_bind (wpAny_setField ho hd (by simp) ?_)))
    refine wpAny_bind (m := newExc (.type "StopIteration") []) ?_
    simp only [newExc, newTuple]
    refine wpAny_bind (wpAny_newObj_type ?_ (by size_fits))
    refine wpAny_bind (m := firstArgMember _ _) (wpAny_of_eq (a := Value.none) (by first | rfl | (simp only [firstArgMember]; rfl)) ?_)
    refine wpAny_newObj_type ?_ (by size_fits)
    simp only [raiseNew]
    refine wpAny_bind (wpAny_handled ?_)
    first | rw [show A.in1.handled = none from hh] | rw [hh]
    refine wpAny_bind (wpAny_pure (wpAny_throw ?_))
    exact no _ _ (((Heap.SameBut.update ..).extBut.push _).push _) ⟨_, Heap.get?_push_size _ rfl, rfl⟩
end
theorem drawsTup {prog : Program} {w : World} {A : Around} (hh : A.handled = none) (it t : Addr) (hne : t ≠ it) (items : Array Value) :
    Draws prog w A it [it, t] items.size (fun i v => items[i]? = some v) (fun i h => h.IsTupleIter it t i ∧ h.IsTuple t items) where
  live := fun _ _ st => let ⟨o, ho, _⟩ := st.1; ⟨o, ho⟩
  frame := fun _ _ _ st hk => ⟨st.1.at fun o e => hk it (by simp) o e, st.2.at fun o e => hk t (by simp) o e⟩
  item := fun i s Q E hi st hQ => next_tup st.1 st.2 (fun x hx h' hit' hs' => hQ x h' s.toks hx ⟨hit', st.2.extBut hs'.extBut hne⟩ hs') fun hx => by
    rw [Array.getElem?_eq_none_iff] at hx
    omega
  done := fun s Q E st hE => next_tup st.1 st.2 (fun x hx => by
    have := (Array.getElem?_eq_some_iff.mp hx).1
    omega) fun _ => ⟨hh, hE⟩
theorem enumNew (l : Addr) (items : Array Value) (n : Nat) (dct : Option Addr) (sl : Array (Option Value)) :
    Meets (Builtin.«enumerate.__new__» ⟨[.type "enumerate", .ref l], []⟩) (fun _ R s => s.heap.get? l = some { cls := .type "tuple", dict := dct, data := .seq items n, slots := sl } ∧
      R (.ok (.ret (.ref (s.heap.push { cls := .type "tuple_iterator", data := .fields #[.ref l, .int 0 0] }).objs.size)))
        { s with heap := (s.heap.push { cls := .type "tuple_iterator", data := .fields #[.ref l, .int 0 0] }).push { cls := .type "enumerate", data := .fields #[.none, .bool false, .ref s.heap.objs.size, rawInt 0, .none, .none] } }) :=
  .of_wp fun prog w A R s h => by
    obtain ⟨hp, g, d, tk, os⟩ := s; obtain ⟨hl, h⟩ := h
    have hsub := sub_enumerate
    have hL : Heap.IsTuple (Shared.heap ⟨hp, g, d, tk, os⟩) l items := ⟨_, hl, rfl, n, rfl⟩
    wp_walk using wpAny_loadPart' hl
    refine wpAny_stack_any fun st => wpAny_pure ?_
    split
    · rename_i c _ _ _ _ _
      cases (c == Value.type "enumerate")
      · wp_walk using wpAny_loadPart' hl, wpAny_pyIter_tuple hL
        exact ⟨_, rfl, h⟩
      · wp_walk using wpAny_loadPart' hl, wpAny_pyIter_tuple hL
        exact ⟨_, rfl, h⟩
    · wp_walk using wpAny_loadPart' hl, wpAny_pyIter_tuple hL
      exact ⟨_, rfl, h⟩
theorem callEnum {prog : Program} {w : World} {A : Around} {E : Value → Shared → Prop} {s : Shared} {l : Addr} {items : Array Value} {Q : Value → Shared → Prop} (hL : s.heap.IsTuple l items)
    (h : ∀ h', IsEnum h' (s.heap.objs.size + 1) s.heap.objs.size 0 .none → h'.IsTupleIter s.heap.objs.size l 0 → (∀ b o, s.heap.get? b = some o → h'.get? b = some o) → Q (.ref (s.heap.objs.size + 1)) { s with heap := h' }) :
    wpAny (model prog w) A (call (.type "enumerate") [.ref l]) Q E s := by
  obtain ⟨⟨c, dct, dt, sl⟩, hl, hc, n, hd⟩ := hL
  replace hc : c = .type "tuple" := hc
  replace hd : dt = .seq items n := hd
  subst hc hd
  refine callType_new F.called_enumerate (by decide) (F.typeCall_enumerate_1 _) (F.newCall_enumerate_1 _) (fun obj => F.args_object_init_2 obj _) F.entry_enumerate_new
    (enumNew l items n dct sl) ⟨hl, ?_⟩
  have hz : (s.heap.push { cls := .type "tuple_iterator", data := .fields #[.ref l, .int 0 0] }).objs.size = s.heap.objs.size + 1 := Heap.size_push ..
  show _ ∧ _
  rw [hz]
  have he : IsEnum ((s.heap.push { cls := .type "tuple_iterator", data := .fields #[.ref l, .int 0 0] }).push
      { cls := .type "enumerate", data := .fields #[.none, .bool false, .ref s.heap.objs.size, rawInt 0, .none, .none] }) (s.heap.objs.size + 1) s.heap.objs.size 0 .none := by
    have := Heap.get?_push_size (s.heap.push { cls := .type "tuple_iterator", data := .fields #[.ref l, .int 0 0] })
      (o := { cls := .type "enumerate", data := .fields #[.none, .bool false, .ref s.heap.objs.size, rawInt 0, .none, .none] }) rfl
    rw [hz] at this; exact this
  exact ⟨⟨_, he, rfl⟩, h _ he ⟨_, Heap.get?_push_of_some _ (Heap.get?_push_size _ rfl), rfl, rfl⟩ fun b o x => Heap.get?_push_of_some _ (Heap.get?_push_of_some _ x)⟩
end PX
namespace PD
open PySem PySem.Spec PyProof.Rows L2
/-- the tuple at a, each item in a new pair -/
def IteT (K : PySem.W.Frag) (a : Addr) : It :=
  ⟨fun i H => ∃ (xs : List V) (x : V), SqT K H a xs ∧ xs[i]? = some x, fun i H v H' => ∃ T x, v = .ref T ∧ H T = none ∧ H' = upd H T (.tup [.int (i : Nat), x]) ∧ ∀ xs, SqT K H a xs → xs[i]? = some x, fun i H => ∃ xs : List V, SqT K H a xs ∧ xs.length ≤ i⟩
theorem turn_enumT {P : Program} {w : World} {K : PySem.W.Frag} {elts : List Expr} {kk : Nat} {tpos : Pos} (a e it : Addr) (hei : e ≠ it) (hea : e ≠ a) (hia : a ≠ it) :
    Turn P w K (.Tuple elts kk tpos) (IteT K a) [e, it] e (fun i h => (∃ old, IsEnum h e it ((i : Nat) : Int) old) ∧ h.IsTupleIter it a i) where
  mem := by simp
  obj := fun i h st b hb => by
    obtain ⟨⟨old, he⟩, ⟨o, ho, hc, hd⟩⟩ := st
    have e' : b = e ∨ b = it := by simpa using hb
    rcases e' with z | z
    · rw [z]; exact ⟨_, he, fun v q => nomatch q⟩
    · rw [z]; exact ⟨o, ho, fun v q => by rw [hd] at q; cases q⟩
  keep := fun i h h' st k => let ⟨⟨old, he⟩, hi⟩ := st; ⟨⟨old, k e (by simp) _ he⟩, hi.at fun o q => k it (by simp) o q⟩
  item := by
    intro X hP hw hK hc i pins s σ H E I hf st hg
    subst hP hw hK
    obtain ⟨⟨old, he⟩, hit⟩ := st
    obtain ⟨xs, x, hq, hx⟩ := hg
    obtain ⟨its, rv, p, hz⟩ := I.tuple hq
    obtain ⟨u, hu, ru⟩ := rv.get hx
    have hel : e < s.heap.objs.size := Heap.lt_size he
    have hil : it < s.heap.objs.size := by obtain ⟨_, q, _⟩ := hit; exact Heap.lt_size q
    have hua : its.toArray[i]? = some u := by simpa using hu
    refine wpAny_pyNext_enum_itemD (PX.drawsTup (A := X.A.in1) (I.ok.hd hc) it a hia its.toArray) he ⟨hit, p⟩ (Array.getElem?_eq_some_iff.mp hua).1 hei (by simp [hei, hea]) fun v h' tk hv ho hst hT hsz hk => ?_
    obtain rfl : v = u := by rw [hua] at hv; exact (Option.some.inj hv).symm
    refine ⟨_, rfl, wpAny_letOwnedTupleGo_enum (s := { s with heap := h', toks := tk + 1 }) ho fun h'' he' sb => ?_⟩
    have hT2 : h''.get? s.heap.objs.size = some { cls := .type "tuple", data := .seq #[.int i tk, v] } := (sb.2 _ (Nat.ne_of_gt hel)).trans hT
    have new : ObjOk X.prog X.w (upd H s.heap.objs.size (.tup [.int (i : Nat), x])) h'' s.heap.objs.size (.tup [.int (i : Nat), x]) :=
      ⟨by show 2 ≤ sizeLine; decide, [.int i tk, v], .cons ⟨_, rfl⟩ (.cons ru .nil), ⟨_, hT2, rfl, _, rfl⟩⟩
    have I1 : Inv X pins σ (upd H s.heap.objs.size (.tup [.int (i : Nat), x])) { s with heap := h'', toks := tk + 1 } :=
      I.turnedNew (ch := [e, it]) (fun b ob hb q => (sb.2 b (fun z => hb (by simp [z]))).trans (hk b ob (fun z => hb (by simp [z])) (fun z => hb (by simp [z])) q)) hf (Nat.le_refl _) new
    refine ⟨.ref s.heap.objs.size, _, I1, rfl, ⟨_, x, rfl, I.hok.fresh (Nat.le_refl _), rfl, fun ys hy => by rw [I.tuple_inj hy hq]; exact hx⟩, ⟨⟨v, ?_⟩, hst.1.at fun o q => (sb.2 it (Ne.symm hei)).trans q⟩, fun b hb => ?_⟩
    · have e1 : ((i + 1 : Nat) : Int) = (i : Int) + 1 := by omega
      rw [e1]; exact he'
    · have hb' : b < s.heap.objs.size := by
        have e' : b = e ∨ b = it := by simpa using hb
        rcases e' with z | z
        · rw [z]; exact hel
        · rw [z]; exact hil
      rw [upd_ne (Nat.ne_of_lt hb')]
      exact (hf b hb).1
  done := by
    intro X hP hw hK hc i pins s σ H E I hf st hg
    subst hP hw hK
    obtain ⟨⟨old, he⟩, hit⟩ := st
    obtain ⟨xs, hq, hx⟩ := hg
    obtain ⟨its, rv, p, hz⟩ := I.tuple hq
    obtain ⟨f0, f1, f2, f3, f4, f5⟩ := hf it (by simp)
    have hT : s.TypeIs (.ref e) "enumerate" := ⟨_, he, rfl⟩
    unfold pyNext
    refine wpAny_bind (wpAny_attempt (wpAny_callSpecial?_slot (name := Str.ofString "__next__") hT PySem.F.slot_enumerate_next
      (wpAny_call_entry PySem.F.slot_enumerate_next hT PySem.F.entry_enumerate_next ?_ (PySem.F.args_enumerate_next_1 _))))
    refine wpAny_bind (m := field (.ref e) 2) (wpAny_field he rfl (x := .ref it) rfl ?_)
    refine wpAny_bind (PX.next_tup hit p (fun y hy => ?_) fun _ => ⟨by first | exact I.ok.hd hc | simpa using I.ok.hd hc, fun h' y eb hy' => ?_⟩)
    · have h1 := (Array.getElem?_eq_some_iff.mp hy).1
      have h2 := rv.length
      rw [List.size_toArray] at h1
      omega
    · obtain ⟨o, ho, hc'⟩ := hy'
      refine wpAny_bind (wpAny_isInstance (T := "StopIteration") (b := true) ⟨o, ho, hc'⟩ isSubtype_stop ?_)
      exact wpAny_pure ⟨rfl, I.turned (t' := s.toks) (fun b o hb q => eb b o hb q) f0 f1 f3 f4 f5⟩
  self := fun A i s Q E st h => let ⟨⟨_, he⟩, _⟩ := st; wpAny_pyIter_enum he h
/-- enumerate of a list or a tuple -/
def iEnumLT (K : PySem.W.Frag) (ta : TA) : TI := fun σ H R => ta σ H fun vs H1 => ∃ a xs, vs = [.ref a] ∧ ((SqL K H1 a xs ∧ R (Ite K a) H1) ∨ (SqT K H1 a xs ∧ R (IteT K a) H1))
theorem pi_enumLT {X : Cx} {e : Expr} {ta : TA} {p pos tpos : Pos} {elts : List Expr} {kk : Nat} (hg : Gl X "enumerate") (hm : X.mg "enumerate" = none) (ha : PA X [e] ta) (hs : starEach [e] X.env = [(false, eval e X.env)] := by rfl) :
    PI X (.Tuple elts kk tpos) (.Call (.Name "enumerate" p) [e] [] pos) (iEnumLT X.K ta) := by
  refine ⟨fun pins s σ H R I h => ?_⟩
  refine Call_ (ld_blt I hg hm boot_enumerate (PyProof.Rows.callWith_type1 (thn (ha.run pos pins s σ H _ I h) fun us s1 ⟨vs, H1, I1, r1, q1⟩ => ?_) hs rfl))
  obtain ⟨a, xs, ex, q⟩ := q1
  subst ex
  cases r1 with
  | cons r rr =>
    cases rr
    cases r
    have hb0 : ∀ b : Addr, b ∈ [s1.heap.objs.size + 1, s1.heap.objs.size] → s1.heap.objs.size ≤ b := fun b hb => by
      have e' : b = s1.heap.objs.size + 1 ∨ b = s1.heap.objs.size := by simpa using hb
      rcases e' with z | z
      · rw [z]; exact Nat.le_add_right _ _
      · rw [z]; exact Nat.le_refl _
    rcases q with ⟨hq, q⟩ | ⟨hq, q⟩
    · obtain ⟨its, rv, p', hz⟩ := I1.list hq
      refine call_enumerate_list p'.isList fun h' he hit hsz hk => wpAny_pyIter_enum he ?_
      have I2 : Inv X pins σ H1 { s1 with heap := h' } := I1.kept (t' := s1.toks) hk
      exact ⟨s1.heap.objs.size + 1, [s1.heap.objs.size + 1, s1.heap.objs.size], _, _, H1, rfl, I2, turn_enum a (s1.heap.objs.size + 1) s1.heap.objs.size, ⟨⟨.none, he⟩, hit, Nat.succ_ne_self _⟩, fun b hb => I1.fpOk (hb0 b hb) (I1.hok.fresh (hb0 b hb)), q⟩
    · obtain ⟨its, rv, p', hz⟩ := I1.tuple hq
      have la : a < s1.heap.objs.size := by obtain ⟨o, ho, _⟩ := p'; exact Heap.lt_size ho
      refine PX.callEnum p' fun h' he hit hk => wpAny_pyIter_enum he ?_
      have I2 : Inv X pins σ H1 { s1 with heap := h' } := I1.kept (t' := s1.toks) hk
      exact ⟨s1.heap.objs.size + 1, [s1.heap.objs.size + 1, s1.heap.objs.size], _, _, H1, rfl, I2, turn_enumT a (s1.heap.objs.size + 1) s1.heap.objs.size (Nat.succ_ne_self _) (Nat.ne_of_gt (Nat.lt_succ_of_lt la)) (Nat.ne_of_lt la), ⟨⟨.none, he⟩, hit⟩, fun b hb => I1.fpOk (hb0 b hb) (I1.hok.fresh (hb0 b hb)), q⟩
theorem i_enumLT {z : Zp} {K : PySem.W.Frag} {ta : TA} {ρ : List (Option D)} {PI : Nat → (Nat → D) → Prop} (h : EA z ta ρ fun es => ∃ ds, (es = [.lst ds] ∨ es = [.tup ds]) ∧ PI ds.length fun i => .tup [.int (i : Nat), ds.getD i .non]) : EI z (iEnumLT K ta) ρ PI := fun hs σ H p s Rr w =>
  h hs σ H p s _ fun vs H1 es e1 p1 rs ⟨ds, he, q⟩ => by
    rcases he with rfl | rfl
    · cases rs with
      | cons r rs =>
        cases rs
        cases r with
        | @lst a xs _ h1 h2 =>
          refine ⟨a, xs, rfl, .inl ⟨.inl (.inl (hid_sub _ _ h1)), w _ H1 _ _ e1 p1 (fun hs' H' p' k i => ?_) q⟩⟩
          obtain ⟨m1, m2, h1⟩ := hid_some h1
          have hq : SqL K H' a xs := .inl (.inl (k a _ m1 m2 h1).1)
          refine ⟨fun hi => ?_, fun hi => ⟨xs, hq, by rw [h2.length]; exact hi⟩⟩
          have hi' : i < xs.length := by rw [h2.length]; exact hi
          refine ⟨⟨xs, xs[i], hq, List.getElem?_eq_getElem hi'⟩, fun x H2 ⟨T, y, ex, n, e, g⟩ => ?_⟩
          subst e
          subst ex
          refine ⟨Ex.new n, p'.new n, ?_⟩
          obtain ⟨d, hd, r⟩ := h2.get (g xs hq)
          rw [List.getD_eq_getElem?_getD, hd]
          obtain ⟨n1, n2⟩ := p'.off n
          refine .tup (a := T) (by rw [hid_ne n1 n2, upd_same]) (.cons (.int _) (.cons (R.mono ?_ _ _ r) .nil))
          exact (R.off k).trans (exz_hid (ExZ.new n))
    · cases rs with
      | cons r rs =>
        cases rs
        cases r with
        | @tup a xs _ h1 h2 =>
          refine ⟨a, xs, rfl, .inr ⟨.inl (.inl (hid_sub _ _ h1)), w _ H1 _ _ e1 p1 (fun hs' H' p' k i => ?_) q⟩⟩
          obtain ⟨m1, m2, h1⟩ := hid_some h1
          have hq : SqT K H' a xs := .inl (.inl (k a _ m1 m2 h1).1)
          refine ⟨fun hi => ?_, fun hi => ⟨xs, hq, by rw [h2.length]; exact hi⟩⟩
          have hi' : i < xs.length := by rw [h2.length]; exact hi
          refine ⟨⟨xs, xs[i], hq, List.getElem?_eq_getElem hi'⟩, fun x H2 ⟨T, y, ex, n, e, g⟩ => ?_⟩
          subst e
          subst ex
          refine ⟨Ex.new n, p'.new n, ?_⟩
          obtain ⟨d, hd, r⟩ := h2.get (g xs hq)
          rw [List.getD_eq_getElem?_getD, hd]
          obtain ⟨n1, n2⟩ := p'.off n
          refine .tup (a := T) (by rw [hid_ne n1 n2, upd_same]) (.cons (.int _) (.cons (R.mono ?_ _ _ r) .nil))
          exact (R.off k).trans (exz_hid (ExZ.new n))
end PD

set_option Elab.async false
set_option linter.all false
set_option maxRecDepth 100000
set_option maxHeartbeats 4000000
/-! PD11: new lists stored beside other things; insert; small dicts with a text's name. -/
namespace PD
open PySem PySem.Spec PyProof.Rows L2
section
variable {z : Zp} {hs : Addr → Prop} {H H1 H2 : Hp} {σ : L2.St} {ρ r : List Sl} {O : List Addr} {p : Addr} {vs : List V} {ds : List D} {te ta tb : TE} {tr : TA} {out : Out} {K : PySem.W.Frag}
/-- a new list at p beside the state -/
structure New1 (z : Zp) (hs : Addr → Prop) (H1 : Hp) (σ : L2.St) (ρ : List Sl) (O : List Addr) (p : Addr) : Prop where
  n1 : ¬ z.at p
  n2 : ¬ hs p
  n3 : p ∉ O
  st : St1 z hs H1 σ ρ O
  ok : Ok z (hsO hs (p :: O)) H1
  ss : SS z (hid z (hsO hs (p :: O)) H1) H1 σ ρ O
theorem New1.make (s : St1 z hs H σ ρ O) (e1 : ExZ z H H1) (p1 : Ok z (hsO hs O) H1) (n : H p = none) (hp : H1 p = some (.lst vs)) : New1 z hs H1 σ ρ O p := by
  obtain ⟨n1, n2⟩ := s.okO.off n
  have n3 : p ∉ O := fun q => n2 (.inr q)
  refine ⟨n1, fun q => n2 (.inl q), n3, s.next e1 (okO_ok p1), ⟨p1.pot, fun a ha => ?_⟩, s.ss.mono (fun a o h => ?_) fun a ha o ho => e1 a o (s.off a ha).1 ho⟩
  · rcases ha with ha | ha
    · exact p1.tr a (.inl ha)
    · rcases List.mem_cons.mp ha with rfl | ha
      · exact ⟨n1, _, hp, fun _ h => by cases h⟩
      · exact p1.tr a (.inr ha)
  · obtain ⟨m1, m2, h⟩ := hid_some h
    have na : a ≠ p := ne_of_none h n
    rw [hid_ne m1 (by
      rintro (q | q)
      · exact m2 (.inl q)
      · rcases List.mem_cons.mp q with q | q
        · exact na q
        · exact m2 (.inr q))]
    exact e1 a o m1 h
theorem New1.next (s : New1 z hs H1 σ ρ O p) (e : ExZ z H1 H2) (p2 : Ok z (hsO hs (p :: O)) H2) : New1 z hs H2 σ ρ O p :=
  ⟨s.n1, s.n2, s.n3, s.st.next e ⟨p2.pot, fun a ha => p2.tr a (.inl ha)⟩, p2, s.ss.mono (exz_hid e) fun a ha o ho => e a o (s.st.off a ha).1 ho⟩
theorem New1.dat (s : New1 z hs H1 σ ρ O p) : SR z (hid z (hsO hs (p :: O)) H1) σ (ρ.map Sl.dat) := s.ss.dat
theorem hidP {H : Hp} : Ex (hid z (fun a => hsO hs O a ∨ a = p) H) (hid z (hsO hs (p :: O)) H) := hid_less fun a h => by
  rcases h with h | h
  · exact .inl (.inl h)
  · rcases List.mem_cons.mp h with h | h
    · exact .inr h
    · exact .inl (.inr h)
/-- the new list stored -/
theorem New1.own (s : New1 z hs H1 σ ρ O p) (hp : H1 p = some (.lst vs)) (rs : RA z (hid z (hsO hs (p :: O)) H1) vs ds) {i : Nat} (hi : i < ρ.length) : ∃ O', (∀ q ∈ O', q = p ∨ q ∈ O) ∧ St1 z hs H1 (σ.set i (some (.ref p))) (ρ.set i (.ow ds)) O' :=
  s.st.setOw s.n1 s.n2 s.n3 hp rs s.ss i hi
theorem sub_less {O' : List Addr} {H : Hp} (sub : ∀ q ∈ O', q = p ∨ q ∈ O) : Ex (hid z (hsO hs (p :: O)) H) (hid z (hsO hs O') H) := hid_less fun a h => by
  rcases h with h | h
  · exact .inl h
  · rcases sub a h with rfl | h
    · exact .inr (List.mem_cons_self ..)
    · exact .inr (List.mem_cons_of_mem _ h)
/-- x, y, z = new, e, f -/
theorem x_par3N {i j l : Nat} (hi : i < r.length) (h : E1N z te (r.map Sl.dat) fun ds => EA z tr (r.map Sl.dat) fun es => ∃ d e, es = [d, e] ∧ out.nx (((r.set i (.ow ds)).set j (.va d)).set l (.va e))) : X1 z (tPar3 i j l (tCons te tr)) r out := fun hs σ H O s F w =>
  h (hsO hs O) σ H s.okO s.ss.dat _ fun p vs H1 ds e1 p1 n hp rs q => by
    have N := New1.make s e1 p1 n hp
    refine q (hsO hs (p :: O)) σ H1 N.ok N.dat _ fun xs H2 es e2 p2 rs2 ⟨d, e, ees, q⟩ => ?_
    subst ees
    have N2 := N.next e2 p2
    obtain ⟨O1, sub, s1⟩ := N2.own (e2 p _ N.n1 hp) (RA.mono (hidP.trans (exz_hid e2)) _ _ rs) hi
    cases rs2 with
    | cons r1 rs2 =>
      cases rs2 with
      | cons r2 rs2 =>
        cases rs2
        obtain ⟨O2, sub2, s2⟩ := s1.setVa (R.mono (sub_less sub) _ _ r1) j
        obtain ⟨O3, sub3, s3⟩ := s2.setVa (R.mono ((sub_less sub).trans (hid_less fun a h => h.imp id (sub2 a))) _ _ r2) l
        refine ⟨_, _, _, rfl, w.nx _ _ _ O3 ⟨fun a o m _ h => e2 a o m (e1 a o m h), fun a ha => ?_⟩ s3 q⟩
        rcases sub a (sub2 a (sub3 a ha)) with rfl | h
        · exact .inr ⟨N.n1, n⟩
        · exact .inl h
/-- x, y = e, new -/
theorem x_parVN {i j : Nat} (hj : j < r.length) (h : E1 z ta (r.map Sl.dat) fun d => E1N z te (r.map Sl.dat) fun ds => out.nx ((r.set i (.va d)).set j (.ow ds))) : X1 z (tPar i j (tCons ta (tCons te tNil))) r out := fun hs σ H O s F w =>
  h (hsO hs O) σ H s.okO s.ss.dat _ fun v H1 d e1 p1 rv q => q (hsO hs O) σ H1 p1 (s.ss.dat.mono (exz_hid e1)) _ fun p vs H2 ds e2 p2 n hp rs q => by
    have s1 : St1 z hs H1 σ r O := s.next e1 (okO_ok p1)
    have N := New1.make s1 e2 p2 n hp
    have n0 : H p = none := by
      cases h0 : H p with
      | none => rfl
      | some o => rw [e1 p o N.n1 h0] at n; cases n
    have rv2 : R z (hid z (hsO hs (p :: O)) H2) v d := R.mono (fun a o h => by
      obtain ⟨m1, m2, h⟩ := hid_some h
      have na : a ≠ p := ne_of_none h n
      rw [hid_ne m1 (by
        rintro (q | q)
        · exact m2 (.inl q)
        · rcases List.mem_cons.mp q with q | q
          · exact na q
          · exact m2 (.inr q))]
      exact e2 a o m1 h) _ _ rv
    -- the value first, the list behind it
    have wt : SS z (hid z (hsO hs (p :: O)) H2) H2 σ r O := N.ss
    obtain ⟨O1, sl1, q1⟩ := wt.setVa rv2 i
    have sub1 : ∀ a ∈ O1, a ∈ O := fun a ha => sl1.subset ha
    have n31 : p ∉ O1 := fun h => N.n3 (sub1 p h)
    have lessP : ∀ a, hsO hs (p :: O1) a → hsO hs (p :: O) a := fun a h => by
      rcases h with h | h
      · exact .inl h
      · rcases List.mem_cons.mp h with rfl | h
        · exact .inr (List.mem_cons_self ..)
        · exact .inr (List.mem_cons_of_mem _ (sub1 a h))
    have s2 : St1 z hs H2 (σ.set i (some v)) (r.set i (.va d)) O1 := ⟨N.st.ok, N.st.nd.sublist sl1, fun a ha => N.st.off a (sub1 a ha), q1.mono (hid_less fun a h => by
      rcases h with h | h
      · exact .inl h
      · exact .inr (List.mem_cons_of_mem _ (sub1 a h))) fun _ _ _ h => h⟩
    obtain ⟨O2, sub2, s3⟩ := s2.setOw N.n1 N.n2 n31 hp (RA.mono (hidP.trans (hid_less lessP)) _ _ rs) (q1.mono (hid_less lessP) fun _ _ _ h => h) j (by rw [List.length_set]; exact hj)
    refine ⟨_, _, rfl, w.nx _ _ _ O2 ⟨fun a o m _ h => e2 a o m (e1 a o m h), fun a ha => ?_⟩ s3 q⟩
    rcases sub2 a ha with rfl | h
    · exact .inr ⟨N.n1, n0⟩
    · exact .inl (sub1 a h)
/-- own.insert(0, e) -/
theorem x_insert {i : Nat} {ds : List D} (he : ρ[i]? = some (.ow ds)) (hz : ds.length < sizeLine) (h : E1 z te (ρ.map Sl.dat) fun d => out.nx (ρ.set i (.ow (d :: ds)))) :
    X1 z (tDrop (tBM K "list" (fun x vs H Q => ∃ (l : Addr) (xs : List V) (i : Int) (y : V), x = .ref l ∧ vs = [.int i, y] ∧ H l = some (.lst xs) ∧ xs.length < sizeLine ∧ 0 ≤ i ∧ i < 2 ^ 63 ∧ Q .non (upd H l (.lst (xs.take i.toNat ++ [y] ++ xs.drop i.toNat)))) (tVar i) (tCons (tC (.int 0)) (tCons te tNil)))) ρ out := fun hs σ H O s F w => by
  obtain ⟨p, vs, a, b, c, d⟩ := s.ss.own he
  refine ⟨.ref p, a, .inl ⟨rfl, vs, .inl (.inl c)⟩, ?_⟩
  refine s.ev h fun v H1 dd e1 s1 r q => ?_
  obtain ⟨p', vs', a', b', c', d'⟩ := s1.ss.own he
  have : p' = p := by
    rw [a] at a'
    have := Option.some.inj (Option.some.inj a')
    cases this
    rfl
  subst this
  refine ⟨p', vs', 0, v, rfl, rfl, c', by rw [d'.length]; exact hz, by omega, by omega, ?_⟩
  obtain ⟨n, s2⟩ := s1.change he a b (.cons r d')
  exact w.nx _ _ _ O ((Nxt.of e1).trans n) s2 q
/-- {k: v} -/
theorem e_disp1V {P : D → Prop} {ρ : List (Option D)} {i j : Nat} {k : Str} {d : D} (hk : ρ[i]? = some (some (.str k))) (hv : ρ[j]? = some (some d)) (q : P (.dct [(.inr k, d)])) : E1 z (tDisp [(tVar i, tVar j)]) ρ P := fun hs σ H p s Q w => fun a n => by
  obtain ⟨v, gv, rv⟩ := s.get hk
  obtain ⟨u, gu, ru⟩ := s.get hv
  cases rv
  refine ⟨_, gv, _, gu, upd_same, [(.inr k, u)], rfl, by simp, ?_⟩
  have e : upd (upd H a (.dK [])) a (.dK (mergeK [] [((.inr k : Key), u)])) = upd H a (.dK [((.inr k : Key), u)]) := upd_upd
  rw [e]
  exact new_w w p n (fun H' h1 h2 => .dct h1 (.cons (R.mono h2 _ _ ru) .nil)) q
end
end PD

set_option Elab.async false
set_option linter.all false
set_option maxRecDepth 100000
set_option maxHeartbeats 4000000
/-! PD12: the text's constants, kinds, words in lists of words; the words' order. -/
namespace PD
open PySem PySem.Spec PyProof.Rows L2
section
variable {X : Cx} {K : PySem.W.Frag} {x : Str} {pos apos : Pos} {e o : Expr} {es : List Expr} {te to : TE} {t : TA}
theorem pe_gint {i : Int} (h : ∃ t, X.mg x = some (.int i t)) (hg : Gl X x) (hd : (x == ("__debug__" : Str)) = false := by decide) : PE X (.Name x pos) (tC (.int i)) := by
  obtain ⟨t, h⟩ := h
  exact pe_glob hg h ⟨t, rfl⟩ hd
theorem pe_gstr {i : Str} (h : ∃ t, X.mg x = some (.str i t)) (hg : Gl X x) (hd : (x == ("__debug__" : Str)) = false := by decide) : PE X (.Name x pos) (tC (.str i)) := by
  obtain ⟨t, h⟩ := h
  exact pe_glob hg h ⟨t, rfl⟩ hd
def rLenK (K : PySem.W.Frag) : List V → Hp → VK → Prop := fun xs H Q => ∃ x n, xs = [x] ∧ LenV K x H n ∧ Q (.int n) H
theorem pe_lenK {p : Pos} (hK : X.K = K) (hg : Gl X "len") (hm : X.mg "len" = none) (ha : PA X (e :: es) t)
    (he : starEach (e :: es) X.env = (false, eval e X.env) :: starEach es X.env := by rfl) (hpl : (backTo pos (starEach es X.env)).any (·.1) = false := by rfl) : PE X (.Call (.Name "len" p) (e :: es) [] pos) (tCB (rLenK K) t) := by
  subst hK
  exact pe_callB call_len hg hm boot_len ha (by decide) (by decide) he hpl
def rJoinK (K : PySem.W.Frag) : V → List V → Hp → VK → Prop := fun x xs H Q => ∃ a p, ∃ ys : List Str, x = .str a ∧ xs = [.ref p] ∧ (SqL K H p (ys.map V.str) ∨ SqT K H p (ys.map V.str)) ∧ (ys.map (·.length)).sum + ys.length * a.length ≤ 16777216 ∧ Q (.str (Txt.join a ys)) H
theorem pe_joinK (hK : X.K = K) (ho : PE X o to) (he : PE X e te) (hs : starEach [e] X.env = [(false, eval e X.env)] := by rfl) (hbase : attributeBase o "join" X.env (eval o X.env) = eval o X.env := by rfl) (hline : (apos.endLine == pos.line) = true := by rfl) :
    PE X (.Call (.Attribute o "join" apos) [e] [] pos) (tM1 (rJoinK K) to te) := by
  subst hK
  exact pe_join ho he hs hbase hline
end
/-! ### kinds by shape -/
def isStrD : D → Bool
  | .str _ => true
  | _ => false
def isTupD : D → Bool
  | .tup _ => true
  | _ => false
def isLstD : D → Bool
  | .lst _ => true
  | _ => false
theorem kit_str {d : D} {T : String} (h : tyD d = some T) : kitB T "str" = some (isStrD d) := by
  cases d <;> cases h <;> (first | rfl | decide +kernel)
theorem kit_tup {d : D} {T : String} (h : tyD d = some T) : kitB T "tuple" = some (isTupD d) := by
  cases d <;> cases h <;> (first | rfl | decide +kernel)
theorem kit_lst {d : D} {T : String} (h : tyD d = some T) : kitB T "list" = some (isLstD d) := by
  cases d <;> cases h <;> (first | rfl | decide +kernel)
section
variable {z : Zp} {P : D → Prop} {K : PySem.W.Frag} {ρ : List (Option D)} {te : TE}
theorem o_isStr {d : D} (h : (tyD d).isSome = true) (q : P (.bl (isStrD d))) : OC z (rIsi K) [d, .raw (.ty "str")] P := by
  obtain ⟨T, hT⟩ := Option.isSome_iff_exists.mp h
  exact o_isTy ⟨d, T, "str", _, rfl, hT, kit_str hT, q⟩
theorem o_isTup {d : D} (h : (tyD d).isSome = true) (q : P (.bl (isTupD d))) : OC z (rIsi K) [d, .raw (.ty "tuple")] P := by
  obtain ⟨T, hT⟩ := Option.isSome_iff_exists.mp h
  exact o_isTy ⟨d, T, "tuple", _, rfl, hT, kit_tup hT, q⟩
theorem o_isLT {d : D} (h : (tyD d).isSome = true) (q : P (.bl (isLstD d || isTupD d))) : OC z (rIsiT K) [d, .tup [.raw (.ty "list"), .raw (.ty "tuple")]] P := by
  obtain ⟨T, hT⟩ := Option.isSome_iff_exists.mp h
  exact o_isTy2 ⟨d, T, "list", "tuple", _, _, rfl, hT, kit_lst hT, kit_tup hT, q⟩
theorem o_lenK {ds : List D} (h : ∃ d n, ds = [d] ∧ lenD d = some n ∧ P (.int (n : Nat))) : OC z (rLenK K) ds P := o_len h
theorem m_joinK {a : Str} {e : D} (h : ∃ ys : List Str, (e = .lst (ys.map D.str) ∨ e = .tup (ys.map D.str)) ∧ (ys.map (·.length)).sum + ys.length * a.length ≤ 16777216 ∧ P (.str (Txt.join a ys))) : OM z (rJoinK K) (.str a) [e] P := m_join h
theorem o_ixS {d e : D} (h : ∃ (x : Str) (i : Int) (c : Nat), d = .str x ∧ e = .int i ∧ x.length ≤ sizeLine ∧ atI x.cps.toList i = some c ∧ P (.str ⟨#[c]⟩)) : O2 z rIxS d e P := fun hs x y H p rx ry Q w => by
  obtain ⟨t, i, c, rfl, rfl, hl, hc, q⟩ := h
  cases rx; cases ry
  exact ⟨t, i, c, rfl, rfl, hl, hc, w.here p (.str _) q⟩
/-! ### words -/
theorem py_wd (k : List Str) : py (wd k) = .tuple (k.map .str) := by
  have : ∀ k : List Str, pyA (k.map D.str) = k.map PyData.str := fun k => by
    induction k with
    | nil => rfl
    | cons x k ih => simp only [List.map_cons, pyA, py, ih]
  simp only [wd, py, this]
theorem isPy_wd (k : List Str) : isPy (wd k) = true := by
  have : ∀ k : List Str, isPyA (k.map D.str) = true := fun k => by
    induction k with
    | nil => rfl
    | cons x k ih => simp only [List.map_cons, isPyA, isPy, ih, Bool.and_self]
  simp only [wd, isPy, this]
/-- its letters' signs are signs -/
def okW (k : List Str) : Prop := ∀ x ∈ k, PyData.strOk x = true
def okWs (ws : List (List Str)) : Prop := ∀ k ∈ ws, okW k
theorem can_strs : ∀ k : List Str, okW k → PyData.canLayAll0 (k.map PyData.str) = true
  | [], _ => by simp [PyData.canLayAll0]
  | x :: k, h => by simp [PyData.canLayAll0, PyData.canLay0, h x List.mem_cons_self, can_strs k fun y hy => h y (List.mem_cons_of_mem _ hy)]
theorem shaped_wd {k : List Str} (h : okW k) : SeqAt.shaped (py (wd k)) = true := by
  rw [py_wd]
  unfold SeqAt.shaped
  simp [PyData.canLay0, can_strs k h, PyData.depth, WS.depth_strs]
theorem pyA_wds (ws : List (List Str)) : pyA (ws.map wd) = ws.map fun k => PyData.tuple (k.map .str) := by
  induction ws with
  | nil => rfl
  | cons k ws ih => simp only [List.map_cons, pyA, ih, py_wd]
theorem isPyA_wds (ws : List (List Str)) : isPyA (ws.map wd) = true := by
  induction ws with
  | nil => rfl
  | cons k ws ih => simp only [List.map_cons, isPyA, ih, isPy_wd, Bool.and_self]
theorem can_wds : ∀ ws : List (List Str), okWs ws → PyData.canLayAll0 (ws.map fun k => PyData.tuple (k.map .str)) = true
  | [], _ => by simp [PyData.canLayAll0]
  | k :: ws, h => by simp [PyData.canLayAll0, PyData.canLay0, can_strs k (h k List.mem_cons_self), can_wds ws fun y hy => h y (List.mem_cons_of_mem _ hy)]
theorem depth_wds : ∀ ws : List (List Str), PyData.depthAll (ws.map fun k => PyData.tuple (k.map .str)) ≤ 1
  | [] => by simp [PyData.depthAll]
  | k :: ws => by
    have := depth_wds ws
    simp only [List.map_cons, PyData.depthAll, PyData.depth, WS.depth_strs]
    exact Nat.max_le.mpr ⟨Nat.le_refl _, this⟩
theorem shaped_wds {ws : List (List Str)} (h : okWs ws) : SeqAt.shaped (py (.lst (ws.map wd))) = true := by
  have hd := depth_wds ws
  simp only [py, pyA_wds]
  unfold SeqAt.shaped
  rw [Bool.and_eq_true]
  refine ⟨by simp only [PyData.canLay0, can_wds ws h], decide_eq_true ?_⟩
  have e : (PyData.list (ws.map fun k => PyData.tuple (k.map .str))).depth = PyData.depthAll (ws.map fun k => PyData.tuple (k.map .str)) + 1 := by simp only [PyData.depth]
  rw [e]
  omega
theorem eqv_strs : ∀ k l : List Str, PyData.eqvAll (k.map .str) (l.map .str) = decide (k = l)
  | [], [] => by simp [PyData.eqvAll]
  | [], _ :: _ => by simp [PyData.eqvAll]
  | _ :: _, [] => by simp [PyData.eqvAll]
  | x :: k, y :: l => by
    simp only [List.map_cons, PyData.eqvAll, PyData.eqv, eqv_strs k l, List.cons.injEq]
    by_cases h : x = y
    · subst h; simp
    · simp [h]
theorem eqv_wd (k l : List Str) : PyData.eqv (py (wd k)) (py (wd l)) = decide (k = l) := by
  rw [py_wd, py_wd]
  simp only [PyData.eqv, eqv_strs]
theorem eqv_wds : ∀ ws us : List (List Str), PyData.eqvAll (ws.map fun k => PyData.tuple (k.map .str)) (us.map fun k => PyData.tuple (k.map .str)) = decide (ws = us)
  | [], [] => by simp [PyData.eqvAll]
  | [], _ :: _ => by simp [PyData.eqvAll]
  | _ :: _, [] => by simp [PyData.eqvAll]
  | x :: k, y :: l => by
    simp only [List.map_cons, PyData.eqvAll, PyData.eqv, eqv_strs, eqv_wds k l, List.cons.injEq]
    by_cases h : x = y
    · subst h; simp
    · simp [h]
theorem o_eqW {k l : List Str} (hk : okW k) (hl : okW l) (q : P (.bl (decide (k = l)))) : O2 z (rEqD K) (wd k) (wd l) P := o_eqD (isPy_wd k) (isPy_wd l) (shaped_wd hk) (shaped_wd hl) (by rw [eqv_wd]; exact q)
theorem o_neW {k l : List Str} (hk : okW k) (hl : okW l) (q : P (.bl (!decide (k = l)))) : O2 z (rNeD K) (wd k) (wd l) P := o_neD (isPy_wd k) (isPy_wd l) (shaped_wd hk) (shaped_wd hl) (by rw [eqv_wd]; exact q)
theorem o_neWs {k l : List (List Str)} (hk : okWs k) (hl : okWs l) (q : P (.bl (!decide (k = l)))) : O2 z (rNeD K) (.lst (k.map wd)) (.lst (l.map wd)) P := o_neD (by simp only [isPy, isPyA_wds]) (by simp only [isPy, isPyA_wds]) (shaped_wds hk) (shaped_wds hl) (by
  have : PyData.eqv (py (.lst (k.map wd))) (py (.lst (l.map wd))) = decide (k = l) := by
    simp only [py, pyA_wds, PyData.eqv, eqv_wds]
  rw [this]
  exact q)
theorem any_eqv (k : List Str) : ∀ ws : List (List Str), ((ws.map fun k => PyData.tuple (k.map .str)).any fun z => PyData.eqv z (.tuple (k.map .str))) = decide (k ∈ ws)
  | [] => by simp
  | l :: ws => by
    rw [List.map_cons, List.any_cons, any_eqv k ws]
    simp only [PyData.eqv, eqv_strs, List.mem_cons]
    by_cases h : l = k
    · subst h; simp
    · have h' : ¬ k = l := fun e => h e.symm
      simp [h, h']
theorem o_notInW {k : List Str} {ws : List (List Str)} (hk : okW k) (hw : okWs ws) (q : P (.bl (!decide (k ∈ ws)))) : O2 z (rNotInD K) (wd k) (.lst (ws.map wd)) P := fun hs x y H p rx ry Q w => by
  refine ⟨_, ws.map fun k => PyData.tuple (k.map .str), R.dp _ x (isPy_wd k) (SeqAt.canLay_of_shaped (shaped_wd hk)) (R.mono hid_sub _ _ rx), ?_, shaped_wd hk, ?_, w.here p (.bl _) ?_⟩
  · have := R.dp (K := K) _ y (by simp only [isPy, isPyA_wds]) (SeqAt.canLay_of_shaped (shaped_wds hw)) (R.mono hid_sub _ _ ry)
    simpa only [py, pyA_wds] using this
  · have := shaped_wds hw
    simpa only [py, pyA_wds] using this
  · rw [py_wd, any_eqv]
    exact q
end
/-! ### the order of words: by length, then letter by letter -/
def lexS : List Str → List Str → Bool
  | x :: k, y :: l => if x = y then lexS k l else decide (x.cps.toList < y.cps.toList)
  | _, _ => false
def wlt (k l : List Str) : Prop := k.length < l.length ∨ (k.length = l.length ∧ lexS k l = true)
theorem str_lt_irrefl (x : Str) : ¬ x.cps.toList < x.cps.toList := fun h => List.lt_irrefl _ h
theorem str_eq_of {x y : Str} (h : x.cps.toList = y.cps.toList) : x = y := by
  cases x; cases y
  simp only at h
  congr 1
  exact Array.toList_inj.mp h
theorem str_tri {x y : Str} (h : x ≠ y) : x.cps.toList < y.cps.toList ∨ y.cps.toList < x.cps.toList := by
  rcases Std.lt_trichotomy x.cps.toList y.cps.toList with a | a | a
  · exact .inl a
  · exact absurd (str_eq_of a) h
  · exact .inr a
theorem lexS_irrefl : ∀ k, lexS k k = false
  | [] => rfl
  | x :: k => by simp [lexS, lexS_irrefl k]
theorem lexS_tri : ∀ k l : List Str, k.length = l.length → k ≠ l → lexS k l = true ∨ lexS l k = true
  | [], [], _, h => absurd rfl h
  | [], _ :: _, h, _ => by simp at h
  | _ :: _, [], h, _ => by simp at h
  | x :: k, y :: l, h, n => by
    by_cases e : x = y
    · subst e
      simp only [lexS, if_true]
      exact lexS_tri k l (by simpa using h) fun e => n (by rw [e])
    · have e' : ¬ y = x := fun q => e q.symm
      simp only [lexS, if_neg e, if_neg e', decide_eq_true_eq]
      exact str_tri e
theorem lexS_asym : ∀ k l : List Str, lexS k l = true → lexS l k = true → False
  | [], _, h, _ => by simp [lexS] at h
  | _ :: _, [], h, _ => by simp [lexS] at h
  | x :: k, y :: l, h, g => by
    by_cases e : x = y
    · subst e
      simp only [lexS, if_true] at h g
      exact lexS_asym k l h g
    · have e' : ¬ y = x := fun q => e q.symm
      simp only [lexS, if_neg e, if_neg e', decide_eq_true_eq] at h g
      exact List.lt_irrefl _ (List.lt_trans h g)
theorem wlt_asym {k l : List Str} (h : wlt k l) (g : wlt l k) : False := by
  rcases h with h | ⟨h1, h2⟩ <;> rcases g with g | ⟨g1, g2⟩
  · omega
  · omega
  · omega
  · exact lexS_asym k l h2 g2
theorem wlt_tri {k l : List Str} (n : k ≠ l) : wlt k l ∨ wlt l k := by
  rcases Nat.lt_trichotomy k.length l.length with h | h | h
  · exact .inl (.inl h)
  · rcases lexS_tri k l h n with g | g
    · exact .inl (.inr ⟨h, g⟩)
    · exact .inr (.inr ⟨h.symm, g⟩)
  · exact .inr (.inl h)
/-- os are the words of ws, once each, in order -/
structure IsOrd (ws os : List (List Str)) : Prop where
  srt : os.Pairwise wlt
  mem : ∀ k, k ∈ os ↔ k ∈ ws
theorem ord_unique : ∀ {os us : List (List Str)}, os.Pairwise wlt → us.Pairwise wlt → (∀ k, k ∈ os ↔ k ∈ us) → os = us
  | [], [], _, _, _ => rfl
  | [], u :: us, _, _, h => absurd ((h u).mpr List.mem_cons_self) (by simp)
  | o :: os, [], _, _, h => absurd ((h o).mp List.mem_cons_self) (by simp)
  | o :: os, u :: us, a, b, h => by
    obtain ⟨a1, a2⟩ := List.pairwise_cons.mp a
    obtain ⟨b1, b2⟩ := List.pairwise_cons.mp b
    have e : o = u := by
      rcases List.mem_cons.mp ((h o).mp List.mem_cons_self) with e | m
      · exact e
      · rcases List.mem_cons.mp ((h u).mpr List.mem_cons_self) with e | m'
        · exact e.symm
        · exact (wlt_asym (b1 o m) (a1 u m')).elim
    subst e
    have no1 : o ∉ os := fun m => wlt_asym (a1 o m) (a1 o m)
    have no2 : o ∉ us := fun m => wlt_asym (b1 o m) (b1 o m)
    rw [ord_unique a2 b2 fun k => ⟨fun m => ?_, fun m => ?_⟩]
    · rcases List.mem_cons.mp ((h k).mp (List.mem_cons_of_mem _ m)) with e | m'
      · subst e; exact absurd m no1
      · exact m'
    · rcases List.mem_cons.mp ((h k).mpr (List.mem_cons_of_mem _ m)) with e | m'
      · subst e; exact absurd m no2
      · exact m'
theorem IsOrd.unique {ws os us : List (List Str)} (a : IsOrd ws os) (b : IsOrd ws us) : os = us := ord_unique a.srt b.srt fun k => (a.mem k).trans (b.mem k).symm
end PD

set_option Elab.async false
set_option linter.all false
set_option maxRecDepth 100000
set_option maxHeartbeats 4000000
/-! PD13: sorted(sorted(set(words)), key=len) gives the words in order. -/
namespace PD
open PySem PySem.Spec PySem.W PyProof.Rows
theorem lex_keys : ∀ k l : List Str, k.length = l.length → PyProof.Rows.lexLt itemOrd (keyToksAll (k.map .str)) (keyToksAll (l.map .str)) = lexS k l
  | [], [], _ => by simp only [List.map_nil, lexS]; exact lex_irrefl _
  | [], _ :: _, h => by simp at h
  | _ :: _, [], h => by simp at h
  | x :: k, y :: l, h => by
    rw [List.map_cons, List.map_cons, dataLt_cons (by simp [alike]), lex_keys k l (by simpa using h), dataLt_str]
    simp only [lexS, PyData.eqv, beq_iff_eq]
theorem dataLt_enc {k l : List Str} (h : k.length = l.length) : dataLt (WS.enc k) (WS.enc l) = lexS k l := by
  unfold WS.enc
  rw [dataLt_tuple]
  exact lex_keys k l h
theorem len_eq : dataLe false (fun k : List Str => .int (k.length : Int)) = fun k l => decide ((k.length : Int) ≤ (l.length : Int)) := dataLe_int fun k : List Str => (k.length : Int)
theorem len_rank (c k : List Str) : sameRank (dataLe false fun k : List Str => .int (k.length : Int)) c k = decide (k.length = c.length) := by
  unfold sameRank
  rw [len_eq]
  simp only [← Bool.decide_and]
  exact decide_eq_decide.mpr ⟨fun h => by omega, fun h => by omega⟩
theorem pairs_of {R : List Str → List Str → Prop} : ∀ {l : List (List Str)}, l.Pairwise (fun a b => a.length ≤ b.length) → (∀ c : List Str, (l.filter fun k => decide (k.length = c.length)).Pairwise R) → l.Pairwise fun a b => a.length < b.length ∨ (a.length = b.length ∧ R a b)
  | [], _, _ => .nil
  | a :: l, h, g => by
    obtain ⟨h1, h2⟩ := List.pairwise_cons.mp h
    refine List.pairwise_cons.mpr ⟨fun b hb => ?_, pairs_of h2 fun c => ?_⟩
    · rcases Nat.lt_or_eq_of_le (h1 b hb) with lt | eq
      · exact .inl lt
      · refine .inr ⟨eq, ?_⟩
        have := g a
        rw [List.filter_cons_of_pos (by simp)] at this
        exact (List.pairwise_cons.mp this).1 b (List.mem_filter.mpr ⟨hb, by simp [eq]⟩)
    · have := g c
      by_cases e : a.length = c.length
      · rw [List.filter_cons_of_pos (by simp [e])] at this
        exact (List.pairwise_cons.mp this).2
      · rwa [List.filter_cons_of_neg (by simp [e])] at this
theorem ordW {us ws : List (List Str)} (nd : us.Nodup) (h : ∀ k, k ∈ us ↔ k ∈ ws) : IsOrd ws (lenW (lexW us)) := by
  have tl : TotalLe (dataLe false fun k : List Str => .int (k.length : Int)) := sortLe_total _ _ _
  have tx : TotalLe (dataLe false WS.enc) := sortLe_total _ _ _
  have p1 : (lenW (lexW us)).Perm us := (List.mergeSort_perm _ _).trans (List.mergeSort_perm _ _)
  refine ⟨?_, fun k => p1.mem_iff.trans (h k)⟩
  have s1 : (lenW (lexW us)).Pairwise (fun a b => a.length ≤ b.length) := (sort_pairwise tl (lexW us)).imp fun {a b} e => by
    rw [len_eq] at e
    have := of_decide_eq_true e
    omega
  have s2 : (lexW us).Pairwise fun a b => dataLe false WS.enc a b = true ∧ a ≠ b := (sort_pairwise tx us).and ((List.mergeSort_perm us _).nodup_iff.mpr nd)
  have := pairs_of (R := fun a b => a.length = b.length → lexS a b = true) s1 fun c => by
    have e := sort_stable tl (lexW us) c
    have e2 : (fun k : List Str => decide (k.length = c.length)) = sameRank (dataLe false fun k : List Str => .int (k.length : Int)) c := funext fun k => (len_rank c k).symm
    rw [e2]
    unfold lenW
    rw [e]
    refine (s2.sublist List.filter_sublist).imp fun {a b} ⟨h1, h2⟩ hl => ?_
    rw [dataLe_eq] at h1
    have h3 : dataLt (WS.enc b) (WS.enc a) = false := by simpa using h1
    rw [dataLt_enc hl.symm] at h3
    rcases lexS_tri a b hl h2 with q | q
    · exact q
    · rw [q] at h3; cases h3
  exact this.imp fun {a b} hab => hab.imp id fun ⟨h1, h2⟩ => ⟨h1, h2 h1⟩
end PD

set_option Elab.async false
set_option linter.all false
set_option maxRecDepth 100000
set_option maxHeartbeats 4000000
/-! KU: small things that the laws share. -/
namespace PD
open PySem PySem.Spec PyProof.Rows L2
theorem sz {n : Nat} (h : Nat.ble n 1000 = true) : n ≤ sizeLine := Nat.le_trans (Nat.le_of_ble_eq_true h) (by rw [sizeLine_eq]; decide)
theorem szl {n : Nat} (h : n ≤ 1000) : n ≤ sizeLine := Nat.le_trans h (by rw [sizeLine_eq]; decide)
theorem len1 {α : Type} {ds : List α} (h : ds.length = 1) : ∃ a, ds = [a] := match ds, h with | [a], _ => ⟨a, rfl⟩
theorem len2 {α : Type} {ds : List α} (h : ds.length = 2) : ∃ a b, ds = [a, b] := match ds, h with | [a, b], _ => ⟨a, b, rfl⟩
theorem iteD {c : Prop} [Decidable c] {A B : Prop} (h1 : c → A) (h2 : ¬ c → B) : if decide c = true then A else B := by
  by_cases h : c
  · rw [if_pos (decide_eq_true h)]; exact h1 h
  · rw [if_neg (by simpa using h)]; exact h2 h
theorem iteNB {c : Bool} {A B : Prop} (h : c = false) (hb : B) : if c = true then A else B := by
  rw [h, if_neg (by decide)]
  exact hb
theorem iteYB {c : Bool} {A B : Prop} (h : c = true) (ha : A) : if c = true then A else B := by
  rw [h, if_pos rfl]
  exact ha
theorem iteB {c : Bool} {A B : Prop} (h1 : c = true → A) (h2 : c = false → B) : if c = true then A else B := by
  cases c with
  | true => exact h1 rfl
  | false => rw [if_neg (by decide)]; exact h2 rfl
theorem range_step (g : Nat → D) (k : Nat) : (List.range k).map g ++ [g k] = (List.range (k + 1)).map g := by
  rw [List.range_succ, List.map_append]
  rfl
theorem g_eq {z : Zp} {g : TG} {ρ : List Sl} {d d' : D} {N : List Sl → Prop} (h : d = d') (H : G1 z g ρ d' N) : G1 z g ρ d N := h ▸ H
theorem ge_eq {z : Zp} {vs : List Nat} {g : TG} {ρ : List (Option D)} {d d' : D} {N : List (Option D) → Prop} (h : d = d') (H : GE z vs g ρ d' N) : GE z vs g ρ d N := h ▸ H
theorem iteN {i j : Str} {A B : Prop} (h : i = j) (hb : B) : if (!decide (i = j)) = true then A else B := by
  rw [if_neg (by simp [h])]
  exact hb
structure Df (K : PySem.W.Frag) (mg : Str → Option Value) (x : Str) (st : Stmt) (ps : List Str) (f : Addr) (fd : FuncData) : Prop where
  F : Fun K x x st f fd
  m : mg x = some (.ref f)
  b : Binds K fd ps []
/-- [e for x in ..] where each turn gives g i -/
theorem e_lcG {z : Zp} {ρ : List (Option D)} {P : D → Prop} {te : TE} {wi : TI} {j : Nat} (hj0 : Nat.ble (j + 1) ρ.length = true)
    (h : EI z wi ρ fun n f => n ≤ 1000000 ∧ ∃ g : Nat → D, (∀ i, i < n → ∀ ρ' : List (Option D), ρ' = (ρ.set j none).set j (some (f i)) → E1 z te ρ' fun d => d = g i) ∧ P (.lst ((List.range n).map g))) : E1 z (tLc wi (gName j) tYes te [j]) ρ P := fun hs σ H p s Q w => by
  refine e_lc (P := P) (fun hs σ H p s Rr w => h hs σ H p s Rr fun J H1 n f e1 p1 wk ⟨hn, g, hg, q⟩ => w J H1 n f e1 p1 wk ⟨hn, fun i acc => acc = (List.range i).map g, rfl, ?_, ?_⟩) hs σ H p s Q w
  · rintro i _ hi _ rfl
    refine ge_name (by simp) (t_yes (iteT (e_imp (hg i hi _ rfl) ?_)))
    rintro _ rfl
    exact range_step g i
  · rintro _ _ rfl
    exact q
theorem n_lcG {z : Zp} {ρ : List (Option D)} {P : List D → Prop} {te : TE} {wi : TI} {j : Nat} (hj0 : Nat.ble (j + 1) ρ.length = true)
    (h : EI z wi ρ fun n f => n ≤ 1000000 ∧ ∃ g : Nat → D, (∀ i, i < n → ∀ ρ' : List (Option D), ρ' = (ρ.set j none).set j (some (f i)) → E1 z te ρ' fun d => d = g i) ∧ P ((List.range n).map g)) : E1N z (tLc wi (gName j) tYes te [j]) ρ P := fun hs σ H p s Q w => by
  refine n_lc (PL := P) (fun hs σ H p s Rr w => h hs σ H p s Rr fun J H1 n f e1 p1 wk ⟨hn, g, hg, q⟩ => w J H1 n f e1 p1 wk ⟨hn, fun i acc => acc = (List.range i).map g, rfl, ?_, ?_⟩) hs σ H p s Q w
  · rintro i _ hi _ rfl
    refine ge_name (by simp) (t_yes (iteT (e_imp (hg i hi _ rfl) ?_)))
    rintro _ rfl
    exact range_step g i
  · rintro _ _ rfl
    exact q
theorem at_slot {ρ : List (Option D)} {j : Nat} {d : D} (hj0 : Nat.ble (j + 1) ρ.length = true) : ((ρ.set j none).set j (some d))[j]? = some (some d) := by
  have hj : j < ρ.length := Nat.le_of_ble_eq_true hj0
  rw [List.getElem?_set, if_pos rfl, if_pos (by rw [List.length_set]; exact hj)]
end PD

set_option Elab.async false
set_option linter.all false
set_option maxRecDepth 100000
set_option maxHeartbeats 4000000
/-! KW: letters and words by data: plain laws, no program in sight. -/
namespace PD
open PySem PySem.Spec PyProof.Rows L2
abbrev alph : Str := "abcdefghijklmnopqrstuvwxyz"
/-- is_letter's answer for a text -/
def sgn (x : Str) : Bool := decide ((1 : Int) ≤ (x.length : Nat)) && (decide (((x.length : Nat) : Int) ≤ 8) && ((List.range x.cps.size).map fun i => decide (x.cps.getD i 0 ∈ alph.cps.toList)).all id)
theorem getD_list (a : Array Nat) (i : Nat) : a.getD i 0 = a.toList.getD i 0 := by
  rw [Array.getD_eq_getD_getElem?, List.getD_eq_getElem?_getD, Array.getElem?_toList]
theorem all_range {n : Nat} {h : Nat → Bool} : ((List.range n).map h).all id = true ↔ ∀ i, i < n → h i = true := by
  rw [List.all_map, List.all_eq_true]
  exact ⟨fun g i hi => g i (List.mem_range.mpr hi), fun g i hi => g i (List.mem_range.mp hi)⟩
theorem sgn_iff {x : Str} : sgn x = true ↔ 1 ≤ x.length ∧ x.length ≤ 8 ∧ ∀ c ∈ x.cps.toList, c ∈ alph.cps.toList := by
  unfold sgn
  rw [Bool.and_eq_true, Bool.and_eq_true, all_range, decide_eq_true_eq, decide_eq_true_eq]
  refine and_congr (by omega) (and_congr (by omega) ⟨fun g c hc => ?_, fun g i hi => ?_⟩)
  · obtain ⟨i, hi, rfl⟩ := List.getElem_of_mem hc
    have hi' : i < x.cps.size := by rwa [Array.length_toList] at hi
    have := of_decide_eq_true (g i hi')
    rw [getD_list, List.getD_eq_getElem?_getD, List.getElem?_eq_getElem hi] at this
    exact this
  · refine decide_eq_true (g _ ?_)
    rw [getD_list, List.getD_eq_getElem?_getD, List.getElem?_eq_getElem (by rwa [Array.length_toList])]
    exact List.getElem_mem _
theorem alph_lo {c : Nat} (h : c ∈ alph.cps.toList) : 97 ≤ c ∧ c ≤ 122 := by
  have e : alph.cps.toList = [97, 98, 99, 100, 101, 102, 103, 104, 105, 106, 107, 108, 109, 110, 111, 112, 113, 114, 115, 116, 117, 118, 119, 120, 121, 122] := by decide +kernel
  rw [e] at h
  simp only [List.mem_cons, List.not_mem_nil, or_false] at h
  omega
theorem sgn_ok {x : Str} (h : sgn x = true) : PyData.strOk x = true := by
  obtain ⟨_, _, g⟩ := sgn_iff.mp h
  unfold PyData.strOk
  rw [← Array.all_toList, List.all_eq_true]
  exact fun c hc => decide_eq_true (by have := alph_lo (g c hc); omega)
/-- is_letter, is_word by data -/
def isL : D → Bool
  | .str x => sgn x
  | _ => false
def isW : D → Bool
  | .tup ds => decide (((ds.length : Nat) : Int) ≤ 3) && ((List.range ds.length).map fun i => isL (ds.getD i .non)).all id
  | _ => false
/-- data that is_letter, is_word may be asked of -/
def Lf : D → Prop
  | .str x => x.length ≤ 1000
  | d => (tyD d).isSome = true
def Lw : D → Prop
  | .tup ds => ∀ e ∈ ds, Lf e
  | d => Lf d
theorem lf_ty {d : D} (h : Lf d) : (tyD d).isSome = true := by
  cases d <;> first | rfl | exact h
theorem lw_ty {d : D} (h : Lw d) : (tyD d).isSome = true := by
  cases d <;> first | rfl | exact h
theorem isStr_of {d : D} (h : isStrD d = true) : ∃ x, d = .str x := by
  cases d <;> first | exact ⟨_, rfl⟩ | (simp [isStrD] at h)
theorem isTup_of {d : D} (h : isTupD d = true) : ∃ x, d = .tup x := by
  cases d <;> first | exact ⟨_, rfl⟩ | (simp [isTupD] at h)
theorem isL_no {d : D} (h : isStrD d = false) : isL d = false := by
  cases d <;> first | rfl | (simp [isStrD] at h)
theorem isW_no {d : D} (h : isTupD d = false) : isW d = false := by
  cases d <;> first | rfl | (simp [isTupD] at h)
/-- a word -/
def gw (k : List Str) : Prop := k.length ≤ 3 ∧ ∀ x ∈ k, sgn x = true
theorem gw_ok {k : List Str} (h : gw k) : okW k := fun x hx => sgn_ok (h.2 x hx)
theorem wd_len (k : List Str) : (k.map D.str).length = k.length := List.length_map ..
theorem gw_isW {k : List Str} (h : gw k) : isW (wd k) = true := by
  show (decide ((((k.map D.str).length : Nat) : Int) ≤ 3) && ((List.range (k.map D.str).length).map fun i => isL ((k.map D.str).getD i .non)).all id) = true
  rw [Bool.and_eq_true, all_range, decide_eq_true_eq, List.length_map]
  refine ⟨by have := h.1; omega, fun i hi => ?_⟩
  rw [List.getD_eq_getElem?_getD, List.getElem?_map, List.getElem?_eq_getElem hi]
  exact h.2 _ (List.getElem_mem hi)
theorem gw_Lw {k : List Str} (h : gw k) : Lw (wd k) := fun e he => by
  obtain ⟨x, hx, rfl⟩ := List.mem_map.mp he
  have := (sgn_iff.mp (h.2 x hx)).2.1
  show x.length ≤ 1000
  omega
theorem gw_nil : gw [] := ⟨by decide, fun x h => by cases h⟩
theorem gw_take {k : List Str} (h : gw k) (n : Nat) : gw (k.take n) := ⟨by have := h.1; rw [List.length_take]; omega, fun x hx => h.2 x (List.mem_of_mem_take hx)⟩
theorem gw_append {k l : List Str} (h : gw k) (g : gw l) (hl : k.length + l.length ≤ 3) : gw (k ++ l) := ⟨by rw [List.length_append]; omega, fun x hx => (List.mem_append.mp hx).elim (h.2 x) (g.2 x)⟩
theorem cut_take (ds : List D) (n : Nat) : cutD ds none (some (n : Int)) = ds.take n := by
  unfold cutD
  rw [HT.sIx_none, HT.sIx_nat, List.drop_zero, Nat.sub_zero]
  by_cases h : n ≤ ds.length
  · rw [Nat.min_eq_left h]
  · rw [Nat.min_eq_right (by omega), List.take_of_length_le (Nat.le_refl _), List.take_of_length_le (by omega)]
theorem cut_drop (ds : List D) (n : Nat) : cutD ds (some (n : Int)) none = ds.drop n := by
  unfold cutD
  rw [HT.sIx_none, HT.sIx_nat]
  by_cases h : n ≤ ds.length
  · rw [Nat.min_eq_left h, List.take_of_length_le (by rw [List.length_drop]; omega)]
  · rw [Nat.min_eq_right (by omega), List.drop_of_length_le (Nat.le_refl _), List.drop_of_length_le (by omega), List.take_nil]
theorem nodup_len {α : Type} [DecidableEq α] : ∀ {us ws : List α}, us.Nodup → (∀ k ∈ us, k ∈ ws) → us.length ≤ ws.length
  | [], _, _, _ => Nat.zero_le _
  | u :: us, ws, h, g => by
    obtain ⟨h1, h2⟩ := List.nodup_cons.mp h
    have hu : u ∈ ws := g u (List.mem_cons_self ..)
    have := nodup_len (us := us) (ws := ws.erase u) h2 fun k hk => (List.mem_erase_of_ne (fun e => h1 (by rw [← e]; exact hk))).mpr (g k (List.mem_cons_of_mem _ hk))
    rw [List.length_erase_of_mem hu] at this
    have := List.length_pos_of_mem hu
    rw [List.length_cons]
    omega
/-! ### a word's text -/
def txtW (k : List Str) : Str := if k = [] then "-" else Txt.join "." k
theorem strlen (x : Str) : x.length = x.cps.toList.length := rfl
theorem join_cons (x : Str) : ∀ k : List Str, ∃ r : List Nat, (Txt.join "." (x :: k)).cps.toList = x.cps.toList ++ r
  | [] => ⟨[], by rw [TL.join_eq]; simp [Str.join]⟩
  | y :: k => by
    rw [TL.join_eq]
    refine ⟨TL.tl "." ++ TL.tl (Str.join "." (y :: k)), ?_⟩
    show TL.tl (x ++ "." ++ Str.join "." (y :: k)) = TL.tl x ++ _
    rw [TL.tl_append, TL.tl_append, List.append_assoc]
theorem join_ne {k : List Str} (h : gw k) (hk : k ≠ []) : Txt.join "." k ≠ "-" := fun e => by
  cases k with
  | nil => exact hk rfl
  | cons x k =>
    obtain ⟨r, hr⟩ := join_cons x k
    rw [e] at hr
    obtain ⟨h1, _, h3⟩ := sgn_iff.mp (h.2 x (List.mem_cons_self ..))
    rw [strlen] at h1
    cases hx : x.cps.toList with
    | nil => rw [hx] at h1; simp at h1
    | cons c l =>
      rw [hx] at hr h3
      have hc := alph_lo (h3 c (List.mem_cons_self ..))
      have e2 : ("-" : Str).cps.toList = [45] := by decide +kernel
      rw [e2] at hr
      simp only [List.cons_append, List.cons.injEq] at hr
      omega
theorem split_word {k : List Str} (h : gw k) (hk : k ≠ []) : Txt.split (Txt.join "." k) "." = k :=
  TL.split_join (y := ".") (s := 46) (S := []) (by decide +kernel) (by decide +kernel) hk fun p hp hc => by
    have := alph_lo ((sgn_iff.mp (h.2 p hp)).2.2 46 hc)
    omega
theorem sum_len {k : List Str} (h : gw k) : (k.map (·.length)).sum + k.length * (("." : Str)).length ≤ 27 := by
  have e : (("." : Str)).length = 1 := by decide +kernel
  rw [e]
  have : ∀ l : List Str, (∀ x ∈ l, sgn x = true) → (l.map (·.length)).sum ≤ 8 * l.length := by
    intro l
    induction l with
    | nil => intro _; simp
    | cons x l ih =>
      intro g
      have h1 := (sgn_iff.mp (g x (List.mem_cons_self ..))).2.1
      have h2 := ih fun y hy => g y (List.mem_cons_of_mem _ hy)
      simp only [List.map_cons, List.sum_cons, List.length_cons]
      omega
  have := this k h.2
  have := h.1
  omega
theorem join_len : ∀ k : List Str, (Txt.join "." k).length ≤ (k.map (·.length)).sum + k.length * (("." : Str)).length
  | [] => by decide +kernel
  | [x] => by rw [TL.join_eq]; simp [Str.join]
  | x :: y :: k => by
    have ih := join_len (y :: k)
    rw [TL.join_eq] at ih ⊢
    show (x ++ "." ++ Str.join "." (y :: k)).length ≤ _
    have e : (x ++ "." ++ Str.join "." (y :: k)).length = x.length + (("." : Str)).length + (Str.join "." (y :: k)).length := by
      show (TL.tl (x ++ "." ++ Str.join "." (y :: k))).length = (TL.tl x).length + (TL.tl ".").length + (TL.tl (Str.join "." (y :: k))).length
      rw [TL.tl_append, TL.tl_append, List.length_append, List.length_append]
    rw [e]
    simp only [List.map_cons, List.sum_cons, List.length_cons] at ih ⊢
    have e : (("." : Str)).length = 1 := by decide +kernel
    rw [e] at ih ⊢
    omega
theorem txt_len {k : List Str} (h : gw k) : (txtW k).length ≤ 100 := by
  unfold txtW
  split
  · decide +kernel
  · have := join_len k
    have := sum_len h
    omega
end PD

set_option Elab.async false
set_option linter.all false
set_option maxRecDepth 100000
set_option maxHeartbeats 4000000
/-! KW2: the order of words: insertion; joined signs. -/
namespace PD
open PySem PySem.Spec PyProof.Rows L2
theorem lexS_trans : ∀ k l m : List Str, lexS k l = true → lexS l m = true → lexS k m = true
  | [], _, _, h, _ => by simp [lexS] at h
  | _ :: _, [], _, h, _ => by simp [lexS] at h
  | _ :: _, _ :: _, [], _, h => by simp [lexS] at h
  | x :: k, y :: l, t :: m, h, g => by
    simp only [lexS] at h g ⊢
    by_cases e1 : x = y
    · subst e1
      rw [if_pos rfl] at h
      by_cases e2 : x = t
      · rw [if_pos e2] at g ⊢
        exact lexS_trans k l m h g
      · rw [if_neg e2] at g ⊢
        exact g
    · rw [if_neg e1] at h
      by_cases e2 : y = t
      · subst e2
        rw [if_neg e1]
        exact h
      · rw [if_neg e2] at g
        have h1 := of_decide_eq_true h
        have h2 := of_decide_eq_true g
        have h3 := List.lt_trans h1 h2
        have e3 : x ≠ t := fun e => by rw [e] at h3; exact str_lt_irrefl _ h3
        rw [if_neg e3]
        exact decide_eq_true h3
theorem wlt_trans {k l m : List Str} (h : wlt k l) (g : wlt l m) : wlt k m := by
  rcases h with h | ⟨h1, h2⟩ <;> rcases g with g | ⟨g1, g2⟩
  · exact .inl (by omega)
  · exact .inl (by omega)
  · exact .inl (by omega)
  · exact .inr ⟨by omega, lexS_trans _ _ _ h2 g2⟩
theorem lexS_at : ∀ (k l : List Str) (i : Nat) (hi : i < k.length) (hj : i < l.length), k.take i = l.take i → k[i] ≠ l[i] → lexS k l = decide (k[i].cps.toList < l[i].cps.toList)
  | [], _, _, h, _, _, _ => by simp at h
  | _ :: _, [], _, _, h, _, _ => by simp at h
  | x :: k, y :: l, 0, _, _, _, n => by
    simp only [List.getElem_cons_zero] at n ⊢
    simp only [lexS, if_neg n]
  | x :: k, y :: l, i + 1, hi, hj, e, n => by
    simp only [List.take_succ_cons, List.cons.injEq] at e
    simp only [List.getElem_cons_succ] at n ⊢
    simp only [lexS, if_pos e.1]
    exact lexS_at k l i (by simpa using hi) (by simpa using hj) e.2 n
theorem take_step {k l : List Str} {i : Nat} (hi : i < k.length) (hj : i < l.length) (e : k.take i = l.take i) (e2 : k[i] = l[i]) : k.take (i + 1) = l.take (i + 1) := by
  rw [List.take_succ_eq_append_getElem hi, List.take_succ_eq_append_getElem hj, e, e2]
instance (k l : List Str) : Decidable (wlt k l) := inferInstanceAs (Decidable (k.length < l.length ∨ (k.length = l.length ∧ lexS k l = true)))
/-- how many of the words in order are before one: these are the first -/
def ahead (os : List (List Str)) (m : List Str) : List (List Str) := os.filter fun k => decide (wlt k m)
theorem ahead_none {m : List Str} : ∀ {os : List (List Str)}, (∀ k ∈ os, wlt m k) → ahead os m = [] := fun {os} h => by
  unfold ahead
  rw [List.filter_eq_nil_iff]
  intro k hk g
  exact wlt_asym (h k hk) (of_decide_eq_true g)
theorem ahead_yes {m o : List Str} {os : List (List Str)} (h : decide (wlt o m) = true) : ahead (os ++ [o]) m = ahead os m ++ [o] := by
  unfold ahead
  rw [List.filter_append]
  exact congrArg _ (List.filter_cons_of_pos (p := fun k => decide (wlt k m)) h)
theorem ahead_no {m o : List Str} {os : List (List Str)} (h : decide (wlt o m) = false) : ahead (os ++ [o]) m = ahead os m := by
  unfold ahead
  rw [List.filter_append, List.filter_cons_of_neg (p := fun k => decide (wlt k m)) (by rw [h]; decide), List.filter_nil, List.append_nil]
theorem ins_sorted {m : List Str} : ∀ {os : List (List Str)}, os.Pairwise wlt → m ∉ os → (os.take (ahead os m).length ++ [m] ++ os.drop (ahead os m).length).Pairwise wlt
  | [], _, _ => by simp [ahead]
  | o :: os, h, n => by
    obtain ⟨h1, h2⟩ := List.pairwise_cons.mp h
    have no : o ≠ m := fun e => n (by rw [e]; exact List.mem_cons_self ..)
    have ns : m ∉ os := fun q => n (List.mem_cons_of_mem _ q)
    rcases wlt_tri no with g | g
    · have e : ahead (o :: os) m = o :: ahead os m := by
        unfold ahead
        exact List.filter_cons_of_pos (p := fun k => decide (wlt k m)) (decide_eq_true g)
      rw [e, List.length_cons, List.take_succ_cons, List.drop_succ_cons, List.cons_append, List.cons_append]
      refine List.pairwise_cons.mpr ⟨fun k hk => ?_, ins_sorted h2 ns⟩
      rcases List.mem_append.mp hk with hk | hk
      · rcases List.mem_append.mp hk with hk | hk
        · exact h1 k (List.mem_of_mem_take hk)
        · rw [List.mem_singleton.mp hk]
          exact g
      · exact h1 k (List.mem_of_mem_drop hk)
    · have e : ahead (o :: os) m = [] := ahead_none fun k hk => (List.mem_cons.mp hk).elim (fun e => e ▸ g) fun q => wlt_trans g (h1 k q)
      rw [e]
      refine List.pairwise_cons.mpr ⟨fun k hk => ?_, h⟩
      exact (List.mem_cons.mp hk).elim (fun e => e ▸ g) fun q => wlt_trans g (h1 k q)
theorem IsOrd.ins {ws os : List (List Str)} {m : List Str} (h : IsOrd ws os) (n : m ∉ os) : IsOrd (ws ++ [m]) (os.take (ahead os m).length ++ [m] ++ os.drop (ahead os m).length) := by
  refine ⟨ins_sorted h.srt n, fun k => ?_⟩
  have e : k ∈ os ↔ k ∈ os.take (ahead os m).length ∨ k ∈ os.drop (ahead os m).length := by
    rw [← List.mem_append, List.take_append_drop]
  simp only [List.mem_append, List.mem_singleton]
  rw [← h.mem k, e]
  exact ⟨fun q => q.elim (fun q => q.elim (fun a => .inl (.inl a)) .inr) (fun a => .inl (.inr a)), fun q => q.elim (fun q => q.elim (fun a => .inl (.inl a)) (fun a => .inr a)) (fun a => .inl (.inr a))⟩
theorem IsOrd.old {ws os : List (List Str)} {m : List Str} (h : IsOrd ws os) (n : m ∈ os) : IsOrd (ws ++ [m]) os := by
  refine ⟨h.srt, fun k => ?_⟩
  rw [List.mem_append, List.mem_singleton, h.mem k]
  exact ⟨.inl, fun q => q.elim id fun e => by rw [e]; exact (h.mem m).mp n⟩
theorem IsOrd.nodup {ws os : List (List Str)} (h : IsOrd ws os) : os.Nodup := List.Pairwise.imp (fun {a b} g => show a ≠ b from fun e => by rw [e] at g; exact wlt_asym g g) h.srt
theorem IsOrd.len {ws os : List (List Str)} (h : IsOrd ws os) : os.length ≤ ws.length := nodup_len h.nodup fun k hk => (h.mem k).mp hk
/-! ### signs joined by nothing -/
theorem join_nil (ys : List Str) : TL.tl (Txt.join "" ys) = (ys.map TL.tl).flatten := by
  have e0 : TL.tl ("" : Str) = [] := by decide +kernel
  rw [TL.join_eq, TL.tl_join, e0]
  have : ∀ l : List (List Nat), TL.joinL [] l = l.flatten := by
    intro l
    induction l with
    | nil => rfl
    | cons a l ih =>
      cases l with
      | nil => simp [TL.joinL]
      | cons b r =>
        show a ++ ([] ++ TL.joinL [] (b :: r)) = _
        rw [ih]
        simp
  exact this _
theorem one_sgn {c : Nat} (h : c ∈ alph.cps.toList) : sgn ⟨#[c]⟩ = true := by
  refine sgn_iff.mpr ⟨Nat.le_refl 1, (by show 1 ≤ 8; omega), fun d hd => ?_⟩
  have : d = c := by simpa using hd
  rw [this]; exact h
theorem join_sgn {ys : List Str} (h : ∀ y ∈ ys, ∃ c ∈ alph.cps.toList, y = ⟨#[c]⟩) (h1 : 1 ≤ ys.length) (h2 : ys.length ≤ 8) : sgn (Txt.join "" ys) = true := by
  have hl : (ys.map TL.tl).flatten.length = ys.length := by
    clear h1 h2
    induction ys with
    | nil => rfl
    | cons y ys ih =>
      obtain ⟨c, _, rfl⟩ := h y (List.mem_cons_self ..)
      rw [List.map_cons, List.flatten_cons, List.length_append, ih fun z hz => h z (List.mem_cons_of_mem _ hz), List.length_cons]
      show 1 + ys.length = ys.length + 1
      omega
  have e : (Txt.join "" ys).length = ys.length := by
    rw [TL.len_tl, join_nil, hl]
  refine sgn_iff.mpr ⟨by omega, by omega, fun c hc => ?_⟩
  have hc : c ∈ TL.tl (Txt.join "" ys) := hc
  rw [join_nil] at hc
  obtain ⟨l, hl, hc⟩ := List.mem_flatten.mp hc
  obtain ⟨y, hy, rfl⟩ := List.mem_map.mp hl
  obtain ⟨d, hd, rfl⟩ := h y hy
  have : c = d := by simpa [TL.tl] using hc
  rw [this]; exact hd
theorem add_len (x y : Str) : (x ++ y).length = x.length + y.length := by
  show (TL.tl (x ++ y)).length = _
  rw [TL.tl_append, List.length_append]
  rfl
theorem add_sgn {x : Str} {c : Nat} (h : sgn x = true) (h8 : x.length < 8) (hc : c ∈ alph.cps.toList) : sgn (x ++ ⟨#[c]⟩) = true := by
  obtain ⟨h1, h2, h3⟩ := sgn_iff.mp h
  have e : (⟨#[c]⟩ : Str).length = 1 := rfl
  refine sgn_iff.mpr ⟨by rw [add_len]; omega, by rw [add_len]; omega, fun d hd => ?_⟩
  have hd : d ∈ TL.tl (x ++ ⟨#[c]⟩) := hd
  rw [TL.tl_append] at hd
  rcases List.mem_append.mp hd with hd | hd
  · exact h3 d hd
  · have : d = c := by simpa [TL.tl] using hd
    rw [this]; exact hc
theorem inV_strs (x : Str) : ∀ ys : List Str, inV (.str x) (ys.map V.str) = decide (x ∈ ys)
  | [] => by simp [inV]
  | y :: ys => by
    have ih := inV_strs x ys
    unfold inV at ih ⊢
    rw [List.map_cons, List.any_cons, ih]
    show ((y == x) || decide (x ∈ ys)) = _
    by_cases e : y = x
    · subst e; simp
    · have e' : ¬ x = y := fun q => e q.symm
      simp [e, e']
theorem vdA_strs : ∀ ys : List Str, vdA (ys.map D.str) = some (ys.map V.str)
  | [] => rfl
  | y :: ys => by
    show (vd (D.str y)).bind _ = _
    rw [vdA_strs ys]
    rfl
section
variable {z : Zp} {P : D → Prop} {K : PySem.W.Frag}
theorem o_inS {x : Str} {ys : List Str} (q : P (.bl (decide (x ∈ ys)))) : O2 z (rIn K false) (.str x) (.lst (ys.map D.str)) P := o_in ⟨_, _, _, .inl rfl, rfl, vdA_strs ys, rfl, by simp [List.all_eq_true, flatV], by
  rw [inV_strs]; exact q⟩
theorem o_notInS {x : Str} {ys : List Str} (q : P (.bl (!decide (x ∈ ys)))) : O2 z (rIn K true) (.str x) (.lst (ys.map D.str)) P := o_in ⟨_, _, _, .inl rfl, rfl, vdA_strs ys, rfl, by simp [List.all_eq_true, flatV], by
  rw [inV_strs]; exact q⟩
theorem o_neg {d : D} (h : ∃ i, d = .int i ∧ P (.int (-i))) : O1 z (rU fun i => .int (-i)) d P := fun hs x H p rx Q w => by
  obtain ⟨i, rfl, q⟩ := h
  cases rx
  exact ⟨i, rfl, w.here p (.int _) q⟩
theorem units65 {k : Nat} {A : Around} (r : Room k A) : A.units + 65 < cLine := by have := r.un; omega
end
end PD

set_option Elab.async false
set_option linter.all false
set_option maxRecDepth 100000
set_option maxHeartbeats 4000000
/-! PD14: x, y = (value, new list) through a tuple (a name of a cell among them). -/
namespace PD
open PySem PySem.Spec PyProof.Rows L2
section
variable {z : Zp} {hs : Addr → Prop} {H H1 H2 : Hp} {σ : L2.St} {ρ r : List Sl} {O : List Addr} {p : Addr} {vs : List V} {ds : List D} {te ta tb : TE} {tr : TA} {out : Out} {K : PySem.W.Frag}
theorem x_tupVN {i j : Nat} (hj : j < r.length) (h : E1 z ta (r.map Sl.dat) fun d => E1N z te (r.map Sl.dat) fun ds => out.nx ((r.set i (.va d)).set j (.ow ds))) : X1 z (tAsg (tTup (tCons ta (tCons te tNil))) (gTup K 2 (gCons (gName i) (gCons (gName j) gNil)))) r out := fun hs σ H O s F w =>
  h (hsO hs O) σ H s.okO s.ss.dat _ fun v H1 d e1 p1 rv q => q (hsO hs O) σ H1 p1 (s.ss.dat.mono (exz_hid e1)) _ fun p vs H20 ds e20 p20 n hp0 rs0 q => by
    refine ⟨sz rfl, fun t nt => ?_⟩
    have npt : p ≠ t := fun e => by rw [e, nt] at hp0; cases hp0
    refine ⟨t, _, rfl, .inl (.inl upd_same), rfl, v, _, rfl, _, _, rfl, rfl, ?_⟩
    generalize eH : upd H20 t (.tup [v, .ref p]) = H2
    have hp : H2 p = some (.lst vs) := by rw [← eH, upd_ne npt]; exact hp0
    have e2 : ExZ z H1 H2 := by rw [← eH]; exact e20.trans (ExZ.new nt)
    have p2 : Ok z (hsO hs O) H2 := by rw [← eH]; exact p20.new nt
    have rs : RA z (hid z (fun a => hsO hs O a ∨ a = p) H2) vs ds := by
      refine RA.mono ?_ _ _ rs0
      rw [← eH]
      exact exz_hid (ExZ.new nt)
    have s1 : St1 z hs H1 σ r O := s.next e1 (okO_ok p1)
    have N := New1.make s1 e2 p2 n hp
    have n0 : H p = none := by
      cases h0 : H p with
      | none => rfl
      | some o => rw [e1 p o N.n1 h0] at n; cases n
    have rv2 : R z (hid z (hsO hs (p :: O)) H2) v d := R.mono (fun a o h => by
      obtain ⟨m1, m2, h⟩ := hid_some h
      have na : a ≠ p := ne_of_none h n
      rw [hid_ne m1 (by
        rintro (q | q)
        · exact m2 (.inl q)
        · rcases List.mem_cons.mp q with q | q
          · exact na q
          · exact m2 (.inr q))]
      exact e2 a o m1 h) _ _ rv
    -- the value first, the list behind it
    have wt : SS z (hid z (hsO hs (p :: O)) H2) H2 σ r O := N.ss
    obtain ⟨O1, sl1, q1⟩ := wt.setVa rv2 i
    have sub1 : ∀ a ∈ O1, a ∈ O := fun a ha => sl1.subset ha
    have n31 : p ∉ O1 := fun h => N.n3 (sub1 p h)
    have lessP : ∀ a, hsO hs (p :: O1) a → hsO hs (p :: O) a := fun a h => by
      rcases h with h | h
      · exact .inl h
      · rcases List.mem_cons.mp h with rfl | h
        · exact .inr (List.mem_cons_self ..)
        · exact .inr (List.mem_cons_of_mem _ (sub1 a h))
    have s2 : St1 z hs H2 (σ.set i (some v)) (r.set i (.va d)) O1 := ⟨N.st.ok, N.st.nd.sublist sl1, fun a ha => N.st.off a (sub1 a ha), q1.mono (hid_less fun a h => by
      rcases h with h | h
      · exact .inl h
      · exact .inr (List.mem_cons_of_mem _ (sub1 a h))) fun _ _ _ h => h⟩
    obtain ⟨O2, sub2, s3⟩ := s2.setOw N.n1 N.n2 n31 hp (RA.mono (hidP.trans (hid_less lessP)) _ _ rs) (q1.mono (hid_less lessP) fun _ _ _ h => h) j (by rw [List.length_set]; exact hj)
    refine w.nx _ _ _ O2 ⟨fun a o m _ h => e2 a o m (e1 a o m h), fun a ha => ?_⟩ s3 q
    rcases sub2 a ha with rfl | h
    · exact .inr ⟨N.n1, n0⟩
    · exact .inl (sub1 a h)
end
end PD

set_option Elab.async false
set_option linter.all false
set_option maxRecDepth 100000
set_option maxHeartbeats 4000000
/-! KW3: words shown. -/
namespace PD
open PySem PySem.Spec PyProof.Rows L2
theorem repr_sgn {x : Str} (h : sgn x = true) : (reprText x).length ≤ 82 := by
  obtain ⟨_, h8, g⟩ := sgn_iff.mp h
  have := StrLaws.reprText_len x fun c hc => by have := alph_lo (g c hc); omega
  omega
theorem shown_strs : ∀ {k : List Str}, (∀ x ∈ k, sgn x = true) → PyData.showableAll (k.map PyData.str) = true ∧ ((PyData.shownAll (k.map PyData.str)).map (·.length)).sum ≤ 82 * k.length ∧ (PyData.shownAll (k.map PyData.str)).length = k.length
  | [], _ => ⟨rfl, Nat.le_refl _, rfl⟩
  | x :: k, h => by
    obtain ⟨i1, i2, i3⟩ := shown_strs (k := k) fun y hy => h y (List.mem_cons_of_mem _ hy)
    have hx := repr_sgn (h x (List.mem_cons_self ..))
    refine ⟨?_, ?_, ?_⟩
    · simp only [List.map_cons, PyData.showableAll, PyData.showable, i1, Bool.and_self]
    · simp only [List.map_cons, PyData.shownAll, List.map_cons, List.sum_cons, List.length_cons, PyData.shown]
      omega
    · simp only [List.map_cons, PyData.shownAll, List.length_cons, i3]
theorem dp_wd (k : List Str) : dp (wd k) ≤ 10 := by
  have : ∀ k : List Str, dpA (k.map D.str) ≤ 1 := fun k => by
    induction k with
    | nil => exact Nat.zero_le _
    | cons x k ih => simp only [List.map_cons, dpA, dp]; omega
  have := this k
  simp only [wd, dp]
  omega
theorem small_wd {k : List Str} (h : gw k) : Small (wd k) := by
  obtain ⟨i1, i2, i3⟩ := shown_strs h.2
  have h3 := h.1
  refine ⟨isPy_wd k, ?_, ?_, dp_wd k⟩
  · rw [py_wd]
    simp only [PyData.showable, i1]
  · rw [py_wd]
    simp only [PyData.shown]
    have := tupleText_len_le (PyData.shownAll (k.map PyData.str))
    omega
theorem small_wds {ws : List (List Str)} (h : ∀ k ∈ ws, gw k) : ∀ d ∈ ws.map wd, Small d := fun d hd => by
  obtain ⟨k, hk, rfl⟩ := List.mem_map.mp hd
  exact small_wd (h k hk)
end PD

set_option Elab.async false
set_option linter.all false
set_option maxRecDepth 100000
set_option maxHeartbeats 4000000
/-! PX5: raising an own exception over any of the built-in bases; several clauses 'except c as n'. -/
namespace PD
open PySem PySem.Spec PyProof.Rows L2
/-- C(e, ..) to be raised, C's own __init__ keeping sp -/
def tMkX (C : Addr) (sp : Sp) (ta : TA) : L2.St → Hp → XK → Prop := fun σ H Q => ta σ H fun vs H1 => vs.length ≤ 1000 ∧ ∀ a, H1 a = none → sp (.ref a :: vs) (upd H1 a (exo a C none))
  (fun v H2 => v = .non ∧ ∃ (d : Addr) (fs : List (Str × V)), H2 a = some (exo a C (some d)) ∧ H2 d = some (exd d fs) ∧ H1 d = none ∧ Q (.ref C) (some d) (upd (del H2 a) d (.xd fs))) (fun _ _ _ => False)
section
variable {X : Cx} {e : Expr} {es : List Expr} {ta : TA} {x : Str} {p pos : Pos} {B newId initId : String} {bm : List Value} {C fI : Addr} {CX : CXT} {k : Nat} {fd : FuncData} {ps : List Str} {sp : Sp}
theorem pmk_ox (FB : ExB B newId initId bm) (T : OxB X.K C newId bm) (iC : PySem.W.findIn X.K (.ref C) "__init__" = some (some (.ref fI))) (tI : PySem.W.typeIn X.K (.ref fI) = some (.type "function"))
    (F1 : FnOk X.prog X.w X.K X.mg X.base CX k fI fd ps sp) (hr : Room (k + 1) X.A) (hb : Binds X.K fd ps []) (hx : Passes CX X (fun _ _ _ => False)) (hg : Gl X x) (hm : X.mg x = some (.ref C)) (ha : PA X (e :: es) ta)
    (hdb : (x == ("__debug__" : Str)) = false := by decide) (he : starEach (e :: es) X.env = (false, eval e X.env) :: starEach es X.env := by rfl) (hpl : (backTo pos (starEach es X.env)).any (·.1) = false := by rfl) :
    PMk X (.Call (.Name x p) (e :: es) [] pos) (tMkX C sp ta) := by
  intro pins s σ H Q I h
  refine wpAny_Call_Name_kw (ld_glob I hg hm ?_ hdb)
  refine PySem.W.callWith_K (h₀ := X.base) I.ok.mod.kin T.kC (thn (ha.run pos pins s σ H _ I h) fun us s1 ⟨vs, H1, I1, r, hl, q1⟩ => ⟨I1.kIn, ?_⟩) he hpl
  show wpAny _ _ (call (.ref C) us) _ _ _
  obtain ⟨nm, N, qn, bs, bm', hdct, sn, sub, ab, col, dd, k0, k1, k2, k3, k5, hC, hT⟩ := PySem.W.excInit_of I1.kIn T.ci
  obtain ⟨hp, g', dr, tk, os⟩ := s1
  have hs1 : hp.objs.size ≤ hp.objs.size + 1 := Nat.le_succ _
  have hn : H1 (hp.objs.size + 1) = none := I1.hok.fresh hs1
  have hq := q1 (hp.objs.size + 1) hn
  have kp : ∀ b o, hp.get? b = some o → ((hp.push (PySem.W.kdv_tup us)).push (PySem.PX.excO C hp.objs.size)).get? b = some o := fun b o e => Heap.get?_push_of_some _ (Heap.get?_push_of_some _ e)
  have gx : ((hp.push (PySem.W.kdv_tup us)).push (PySem.PX.excO C hp.objs.size)).get? (hp.objs.size + 1) = some (PySem.PX.excO C hp.objs.size) := by heap_get
  have I2 : Inv X pins σ (upd H1 (hp.objs.size + 1) (exo (hp.objs.size + 1) C none)) ⟨(hp.push (PySem.W.kdv_tup us)).push (PySem.PX.excO C hp.objs.size), g', dr, tk, os⟩ :=
    I1.laid (t' := tk) (a := hp.objs.size + 1) (o := exo (hp.objs.size + 1) C none) (h' := (hp.push (PySem.W.kdv_tup us)).push (PySem.PX.excO C hp.objs.size)) kp hs1 (exo_ok gx)
  have r1 : Vals (V.ref (hp.objs.size + 1) :: vs) (Value.ref (hp.objs.size + 1) :: us) := .cons rfl r
  have r2 : Vals (V.ref (hp.objs.size + 1) :: vs) (Value.ref (hp.objs.size + 1) :: us ++ []) := by rw [List.append_nil]; exact r1
  have ln : (Value.ref (hp.objs.size + 1) :: us ++ []).length = ps.length := by rw [← r2.length]; exact F1.len _ _ _ _ hq
  have hus : us.length ≤ sizeLine := by
    rw [← Paired.length r, sizeLine_eq]
    omega
  refine wpAny_call (PX.callOwn FB.f hT hC hus (PySem.W.looks_findIn I1.kIn iC) (fun self => PySem.W.bind_fn I1.kIn self tI)
    (codeAny_mono (F1.run _ X.stack _ _ ⟨Value.ref (hp.objs.size + 1) :: us, []⟩ _ _ _ (fun _ _ _ => False) (hr.make C us []) (I2.env0.make C us []) (hb _ (Value.ref (hp.objs.size + 1) :: us) I2.kIn ln) r2 hq) fun r s' hq' => ?_))
  cases r with
  | error er => exact hx pins σ _ _ er s' I2 hq'
  | ok fl =>
    cases fl with
    | ret u =>
      obtain ⟨v, H2, os2, bare2, un2, hok2, rv, ev, d, fs, ea, ed, hd1, q2⟩ := hq'
      subst ev
      obtain ⟨h2, g2, d2, t2, os'⟩ := s'
      exact ⟨rv, mk_end (raises_own T.ex.hs T.tyC) I1 hs1 kp un2 hok2 os2 bare2 ea ed hd1 q2⟩
    | next => exact False.elim hq'
    | brk => exact False.elim hq'
    | cont => exact False.elim hq'
end
/-! ### clauses with names -/
/-- what the clauses wish, one after the other: the class, the name's slot, the suite's reading -/
def wAsM (K : PySem.W.Frag) (Wout : WX) (D : Ends) : List (Value × Nat × (Addr → Value → Option Addr → TS)) → WX
  | [] => Wout
  | c :: r => wAs K c.1 c.2.1 c.2.2 (wAsM K Wout D r) D
inductive HdsA (X : Cx) : List ExceptHandler → List (Value × Nat × (Addr → Value → Option Addr → TS)) → Prop
  | nil : HdsA X [] []
  | cons {x n : Str} {c : Value} {i : Nat} {ts : Addr → Value → Option Addr → TS} {st : Stmt} {sts : List Stmt} {p1 p2 : Pos} {hl : List ExceptHandler} {l : List (Value × Nat × (Addr → Value → Option Addr → TS))} (nm : Names X x c) (ix : X.N[i]? = some n) (lo : X.env.kindOf n = some .local)
      (su : ∀ (a : Addr) (oe : Obj) (cls : Value) (d : Option Addr) (pn : List (Addr × Obj)), Zc cls d oe → (∃ fv, oe.data = .fields fv) → PSs (X.suite a ((a, oe) :: pn)) (st :: sts) (ts a cls d)) (rest : HdsA X hl l) :
      HdsA X (.ExceptHandler (some (.Name x p1)) (some n) (st :: sts) p2 :: hl) ((c, i, ts) :: l)
/-- an exception that is caught: in the air over X's frames at the heap h, and a state of ours without it -/
structure Caught (X : Cx) (pins : List (Addr × Obj)) (σ : L2.St) (H : Hp) (s : Shared) (a : Addr) (cls : Value) (d : Option Addr) (h : Heap) : Prop where
  air : ∃ (G : Heap) (sI : Shared), HandSPX.FlyingZ G (X.env :: X.outer) a (Zc cls d) h ∧ Inv X pins σ H sI ∧ (∀ b o, sI.heap.get? b = some o → b ∉ frs X.stack → G.get? b = some o) ∧ sI.heap.UpToSlots h ∧ s.os = sI.os ∧ AllBare s.gens
  na : H a = none
section
variable {X : Cx} {pins : List (Addr × Obj)} {σ : L2.St} {H : Hp} {s : Shared} {a : Addr} {cls : Value} {d : Option Addr} {h : Heap}
theorem Caught.inv (c : Caught X pins σ H s a cls d h) : Inv X pins σ H { s with heap := h } := by
  obtain ⟨G, sI, fl, J, nb, up, os, ag⟩ := c.air
  exact J.landed nb fl.1 up os ag
theorem Caught.obj (c : Caught X pins σ H s a cls d h) (hf : X.env.frame = some X.env.locals) : ∃ oe fv, h.get? a = some oe ∧ Zc cls d oe ∧ oe.data = .fields fv ∧ a ≠ X.env.locals ∧ a ∉ X.fs := by
  obtain ⟨G, sI, fl, J, nb, up, os, ag⟩ := c.air
  obtain ⟨oe, fv, e1, z, e2⟩ := fl.there
  have off : a ∉ frs (X.env :: X.outer) := fun m => by
    obtain ⟨_, o, q, nf⟩ := fl.2.2.1.mem m
    rw [e1] at q
    cases q
    exact nf _ e2
  refine ⟨oe, fv, e1, z, e2, fun q => off (List.mem_filterMap.mpr ⟨_, List.mem_cons_self, by rw [hf, q]⟩), fun m => ?_⟩
  obtain ⟨ev, he, q⟩ := List.mem_filterMap.mp m
  exact off (List.mem_filterMap.mpr ⟨ev, List.mem_cons_of_mem _ he, q⟩)
theorem Caught.again {M : Model} {A : Around} {Q : Unit → Shared → Prop} {E : Value → Shared → Prop} (c : Caught X pins σ H s a cls d h) (q : ∀ h', Caught X pins σ H s a cls d h' → Q () { s with heap := h' }) : wpAny M A (setFlight (.ref a) none) Q E { s with heap := h } := by
  obtain ⟨G, sI, fl, J, nb, up, os, ag⟩ := c.air
  exact HandSPX.lands_againZ fl fun h' fl' up' => q h' ⟨⟨G, sI, fl', J, nb, up.trans up', os, ag⟩, c.na⟩
/-- no clause takes it: it flies on -/
theorem Caught.on {D : Ends} {W : WX} (c : Caught X pins σ H s a cls d h) (hs : X.stack = X.env :: X.outer) (hf : X.env.frame = some X.env.locals) (tk : Takes X W) (w : W cls d σ H) :
    wpAny (model X.prog X.w) X.A (handleBy (.ref a) X.env []) (SP X pins D) X.xe { s with heap := h } := by
  obtain ⟨G, sI, fl, J, nb, up, os, ag⟩ := c.air
  obtain ⟨oe, fv, T, oT, ts, e1, z, e2, f1, _⟩ := fl.2.2.2
  have away : wpAny (model X.prog X.w) X.A (setFlight (.ref a) X.env.frame) (fun _ s4 => wpAny (model X.prog X.w) X.A (throw (.ref a) : Sem Flow) (SP X pins D) X.xe s4) X.xe { s with heap := h } := by
    rw [hf]
    exact HandSPX.setFlight_upZ fl fun h4 q4 up4 => wpAny_throw (tk _ _ ⟨a, G, sI, pins, σ, H, cls, d, rfl, J, nb, up.trans up4, .inr (.inr (by rw [hs]; exact q4)), c.na, os, ag, w⟩)
  refine wpAny_handleBy_nil ?_
  unfold PySem.passOn
  refine wpAny_bind (wpAny_field e1 e2 f1 ?_)
  rw [if_neg (show ¬ ((Value.ref T == Value.none) = true) from by simp)]
  first
    | exact wpAny_bind (wpAny_pure (wpAny_bind away))
    | exact wpAny_bind away
/-- the clauses, from the first one that takes it on -/
theorem Caught.clauses {D : Ends} {W : WX} (hs : X.stack = X.env :: X.outer) (hf : X.env.frame = some X.env.locals) (nd : X.N.Nodup) (tk : Takes X W) (c : Caught X pins σ H s a cls d h) {hl : List ExceptHandler} {l : List (Value × Nat × (Addr → Value → Option Addr → TS))}
    (k : HdsA X hl l) (w : wAsM X.K W D l cls d σ H) : wpAny (model X.prog X.w) X.A (handleBy (.ref a) X.env hl) (SP X pins D) X.xe { s with heap := h } := by
  obtain ⟨oe, fv, e1, z, e2, nL, nF⟩ := c.obj hf
  have S : Inv (X.suite a ((a, oe) :: (X.pn ++ pins))) [] σ H { s with heap := h } := c.inv.suite e1 e2 c.na nL nF
  have ty : PySem.W.Looks (model X.prog X.w) h (typeOf (.ref a)) cls := fun A Q E s k q => wpAny_typeOf_ref (k _ _ e1) (by rw [z.1]; exact q)
  induction k with
  | nil => exact c.on hs hf tk w
  | @cons x n cv i ts st sts p1 p2 hl l nm ix lo su rest ih =>
    obtain ⟨b, eb, yes, no⟩ := w
    have name : ∀ {Q : Value → Shared → Prop} {E : Value → Shared → Prop}, Q cv { s with heap := h } → wpAny (model X.prog X.w) (X.A.mark (some (.ref a))) (eval (.Name x p1) X.env) Q E { s with heap := h } := fun q => by
      obtain ⟨g, nb, m | ⟨m, bt, nn⟩⟩ := nm
      · exact ld_glob (X := X.suite a ((a, oe) :: (X.pn ++ pins))) S g m q nb
      · exact ld_blt (X := X.suite a ((a, oe) :: (X.pn ++ pins))) S g m bt q nn nb
    refine wpAny_handleBy_cons (codeAny_handlers_test (name ((PySem.W.exm_one (M := model X.prog X.w) c.inv.kIn ty eb).here ?_))) (by intro q; cases q)
    cases b with
    | false => exact ih (no rfl)
    | true =>
      refine codeAny_handlers_suite_as (c.again fun h4 c4 => ?_)
      obtain ⟨oe4, fv4, e4, z4, d4, _, _⟩ := c4.obj hf
      refine store_ok (X := X.suite a ((a, oe4) :: (X.pn ++ pins))) (v := .ref a) (c4.inv.suite e4 d4 c.na nL nF) nd ix (.inl lo) rfl (fun s5 S5 => ?_) (.inr lo)
      refine wpAny_mono ((su a oe4 cls d (X.pn ++ pins) z4 ⟨_, d4⟩).run [] s5 _ H _ S5 (yes rfl a c.na)) (fun f s6 q6 => ?_) fun _ _ q => q.elim
      have gone : ∀ {σ6 : L2.St} {H6 : Hp} {Q : Shared → Prop}, Inv (X.suite a ((a, oe4) :: (X.pn ++ pins))) [] σ6 H6 s6 → (∀ s7, Inv X pins (σ6.set i none) H6 s7 → Q s7) → wpAny (model X.prog X.w) X.A (do bindName X.env n .none; unbindBehindTheSuite X.env n p2) (fun _ s7 => Q s7) X.xe s6 :=
        fun S6 q => gone_ok (S6.unsuite c.inv.ok) nd ix lo q
      cases f with
      | next => obtain ⟨σ6, H6, S6, q⟩ := q6; exact gone S6 fun s7 J => ⟨_, _, J, q⟩
      | brk => obtain ⟨σ6, H6, S6, q⟩ := q6; exact gone S6 fun s7 J => ⟨_, _, J, q⟩
      | cont => obtain ⟨σ6, H6, S6, q⟩ := q6; exact gone S6 fun s7 J => ⟨_, _, J, q⟩
      | ret u => obtain ⟨v6, σ6, H6, S6, r6, q⟩ := q6; exact gone S6 fun s7 J => ⟨_, _, _, J, r6, q⟩
end
/-- try: body, clauses with names, nothing else -/
theorem ps_tryA {X : Cx} {body : List Stmt} {h0 : ExceptHandler} {hl : List ExceptHandler} {l : List (Value × Nat × (Addr → Value → Option Addr → TS))} {pos : Pos} {tb : WX → TS} {W0 : WX} (hs : X.stack = X.env :: X.outer) (hf : X.env.frame = some X.env.locals) (nd : X.N.Nodup) (tk : Takes X W0)
    (hb : ∀ (W : WX) (pn : List (Addr × Obj)) (xe : Value → Shared → Prop), Takes (X.tr pn xe) W → PassesOwn (model X.prog X.w) X.A X.env xe → PSs (X.tr pn xe) body (tb W))
    (k : HdsA X (h0 :: hl) l) : PS X (.Try body (h0 :: hl) [] [] pos) (fun D σ H => tb (wAsM X.K W0 D l) D σ H) := by
  refine ⟨fun pins s σ H D I q => wpAny_Try_except ?_⟩
  have fr : X.A.frames = some (X.env :: X.outer) := by rw [I.ok.frames, hs]
  refine wpAny_mono ((hb (wAsM X.K W0 D l) (X.pn ++ pins) (fun e s₁ => wpAny (model X.prog X.w) X.A (noteFrame e X.env) (fun _ s₂ => wpAny (model X.prog X.w) X.A (setFlight e none) (fun _ s₃ =>
    wpAny (model X.prog X.w) X.A (handleBy e X.env (h0 :: hl)) (SP X pins D) X.xe s₃) X.xe s₂) X.xe s₁) (fun u s' air => ?_) PassesOwn.looking).run [] s σ H D (I.toTry _) q) (fun f s1 q1 => ?_) fun e s1 q1 => q1
  · obtain ⟨a, G, sI, pins', σ', H', cls, d, rfl, J, nb, up, sky, na, os, ag, w⟩ := air
    refine Sky.land Zc.steady fr hf (by rw [← hs]; exact sky) fun h3 fl up3 => ?_
    have c : Caught X pins σ' H' s' a cls d h3 := ⟨⟨G, sI, fl, J.ofTry I.ok, nb, up.trans up3, os, ag⟩, na⟩
    exact c.clauses hs hf nd tk k w
  · cases f with
    | next => obtain ⟨σ', H', J, q⟩ := q1; exact wpAny_execs_nil ⟨σ', H', J.ofTry I.ok, q⟩
    | brk => obtain ⟨σ', H', J, q⟩ := q1; exact ⟨σ', H', J.ofTry I.ok, q⟩
    | cont => obtain ⟨σ', H', J, q⟩ := q1; exact ⟨σ', H', J.ofTry I.ok, q⟩
    | ret u => obtain ⟨v, σ', H', J, r, q⟩ := q1; exact ⟨v, σ', H', J.ofTry I.ok, r, q⟩
end PD

set_option Elab.async false
set_option linter.all false
set_option maxRecDepth 100000
set_option maxHeartbeats 4000000
/-! PX6: what an except suite reads of its exception; lambdas: the table's change told in full; a def that tells how a lambda ends. -/
namespace PD
open PySem PySem.Spec PyProof.Rows L2
/-! ### in an except suite -/
def tXv (K : PySem.W.Frag) (a : Addr) (cls : Value) (d : Option Addr) (f : Str) (te : TE) : TE := fun σ H Q => te σ H fun x H1 => x = .ref a ∧ ∃ (C dd : Addr) (fs : List (Str × V)) (v : V), cls = .ref C ∧ ExcC K C ∧ PySem.W.findIn K (.ref C) f = some none ∧ d = some dd ∧ H1 dd = some (.xd fs) ∧ fs.lookup f = some v ∧ Q v H1
def rIsC (K : PySem.W.Frag) (a : Addr) (cls : Value) (d : Option Addr) : List V → Hp → VK → Prop := fun xs H Q => ∃ (C dd : Addr) (fs : List (Str × V)) (c : V) (cv : Value) (b : Bool), xs = [.ref a, c] ∧ cls = .ref C ∧ ExcC K C ∧ d = some dd ∧ H dd = some (.xd fs) ∧ (∀ u, RelV c u → u = cv) ∧ PySem.W.kitOne K (.ref C) cv = some b ∧ Q (.bl b) H
section
variable {X : Cx} {a C : Addr} {oe : Obj} {cls : Value} {d : Option Addr} {pn : List (Addr × Obj)} {e : Expr} {te : TE} {pos : Pos} {n : Str}
/-- the caught exception with its dict -/
theorem caught_at {pins : List (Addr × Obj)} {σ : L2.St} {H : Hp} {s : Shared} {dd : Addr} {fs : List (Str × V)} (hz : Zc (.ref C) (some dd) oe) (hf : ∃ fv, oe.data = .fields fv) (I : Inv (X.suite a ((a, oe) :: pn)) pins σ H s) (ed : H dd = some (.xd fs)) :
    ∃ (od : Obj) (mA : Str → Option Value), PySem.W.InstAt s.heap a oe C (some od) ∧ (∀ f, PySem.W.lookIn f od = some (mA f)) ∧ ∀ f, RelO (fs.lookup f) (mA f) := by
  obtain ⟨fv, hd⟩ := hf
  obtain ⟨mA, hns, hr⟩ := (show ObjOk X.prog X.w H s.heap dd (.xd fs) from I.hok dd _ ed)
  obtain ⟨od, ho, hl⟩ := lookIn_ns hns
  refine ⟨od, mA, ⟨(I.pin (a, oe) (List.mem_append_left _ List.mem_cons_self)).1, hz.1, ?_, by rw [hz.2]; exact ho⟩, hl, hr⟩
  unfold PySem.W.notCls
  rw [hd] <;> rfl
theorem pe_xv (hz : Zc cls d oe) (hf : ∃ fv, oe.data = .fields fv) (he : PE (X.suite a ((a, oe) :: pn)) e te) (hb : attributeBase e n X.env (eval e X.env) = eval e X.env := by rfl) : PE (X.suite a ((a, oe) :: pn)) (.Attribute e n pos) (tXv X.K a cls d n te) := by
  refine ⟨fun pins s σ H Q I h => attr_of hb (thn (he.run pins s σ H _ I h) fun u s1 ⟨x, H1, I1, rx, ex, C, dd, fs, v, ec, T, hno, ed, ea, l, q⟩ => ?_)⟩
  subst ex ec ed
  obtain rfl : u = Value.ref a := rx
  obtain ⟨od, mA, J, hl, hr⟩ := caught_at hz hf I1 ea
  obtain ⟨w, hw, rw'⟩ := RelO.some_of (v := v) (o := mA n) (by rw [← l]; exact hr n)
  exact HandSPX.exc_get I1.kIn J T.hg T.hk T.hs (PySem.W.findObj_own T.hd hno rfl (by rw [hl, hw])) (handed_of rw') ⟨v, H1, I1.tok _, rw', q⟩
theorem call_isC (hz : Zc cls d oe) (hf : ∃ fv, oe.data = .fields fv) : CallR (X.suite a ((a, oe) :: pn)) (.builtin "isinstance") (rIsC X.K a cls d) := by
  intro pins s σ H xs us Q I r h
  obtain ⟨C, dd, fs, c, cv, b, rfl, rfl, T, rfl, ed, hcv, e, q⟩ := h
  cases r with
  | cons rx rr =>
    cases rr with
    | cons rt rr =>
      cases rr
      cases rx
      have ec := hcv _ rt
      subst ec
      obtain ⟨od, mA, J, _, _⟩ := caught_at hz hf I ed
      exact PySem.W.kia_one (kit_exc T) I.kIn J e (fun z => nomatch z) fun tk => ⟨.bl b, H, I.kept (t' := tk) fun _ _ z => z, rfl, q⟩
end
/-! ### the making of a lambda -/
/-- H1 is H, but for a code object that is new, and told by the table at P -/
def Made (P : Addr) (q : Str) (H H1 : Hp) : Prop := H1 = H ∨ ∃ (ps more : Array Value) (c : Addr), H P = some (.tbl ps) ∧ H c = none ∧ H1 = upd (upd H P (.tbl (ps ++ more))) c (LamX.CodeO c q)
theorem Made.ext {P : Addr} {q : Str} {H H1 : Hp} (m : Made P q H H1) : LamX.ExtN H H1 := by
  rcases m with rfl | ⟨ps, more, c, hP, hc, rfl⟩
  · exact LamX.ExtN.refl _
  · intro b o e n
    rw [upd_ne (ne_of_none e hc), upd_ne (fun z => n ps (Option.some.inj (e.symm.trans (by rw [z]; exact hP))))]
    exact e
theorem Made.tbl {P : Addr} {q : Str} {H H1 : Hp} (m : Made P q H H1) {b : Addr} {ps : Array Value} (e : H1 b = some (.tbl ps)) : ∃ qs, H b = some (.tbl qs) := by
  rcases m with rfl | ⟨qs, more, c, hP, hc, rfl⟩
  · exact ⟨ps, e⟩
  · by_cases h1 : b = c
    · subst h1
      rw [upd_same] at e
      exact absurd (Option.some.inj e) (LamX.codeO_ne _)
    · rw [upd_ne h1] at e
      by_cases h2 : b = P
      · subst h2
        exact ⟨qs, hP⟩
      · rw [upd_ne h2] at e
        exact ⟨ps, e⟩
section
variable {X : Cx} {pins : List (Addr × Obj)} {σ : L2.St} {H : Hp} {s : Shared}
open LamX in
theorem lam_at {T : List (Addr × Str)} {c P : Addr} {params : Arguments} {body : Expr} {scope : Scope} {pos : Pos} {E : Value → Shared → Prop} {Q : Value → Shared → Prop} (I : Inv X pins σ H s) (tb : TabB X.base X.mg c P) (code : X.env.code = .ref c)
    (mem : (P, X.env.qual ++ "<lambda>") ∈ T) (one : ∀ p ∈ T, p.1 = P → p.2 = X.env.qual ++ "<lambda>") (t0 : Tabs T H) (nodef : defaultsOf params X.env = ([], [])) (free : ∀ y ∈ scope.names, y.2 = .free → ∃ c, X.env.cells.lookup y.1 = some c)
    (go : ∀ (f c' : Addr) (pm ctv : Value) (H1 : Hp) (s' : Shared), Inv X pins σ H1 s' → Made P (X.env.qual ++ "<lambda>") H H1 → Tabs T H1 →
      s'.heap.get? f = some (PySem.W.kla_obj "<lambda>" (X.env.qual ++ "<lambda>") params body scope (cloFrom X.env.cells scope.names []) pm c' ctv) → H1 f = none → f ∉ frs X.stack → H1 c' = some (CodeO c' (X.env.qual ++ "<lambda>")) → Q (.ref f) s') :
    wpAny (model X.prog X.w) X.A (eval (.Lambda params body scope pos) X.env) Q E s := by
  obtain ⟨ps, hP, tr, told⟩ := t0 _ mem
  have bP : s.heap.BuiltinsAt X.mg P := tb.bm.keeps I.bk
  have gP : s.heap.get? P = some { cls := .none, data := .fields ps } := I.hok P _ hP
  have nofr : ∀ f, s.heap.objs.size ≤ f → f ∉ frs X.stack := fun f hf z => by
    rcases List.mem_cons.mp (I.stkSub _ z) with e | e
    · exact absurd I.lt (by rw [← e]; exact Nat.not_lt.mpr hf)
    · exact I.nofs hf e
  refine PySem.W.kla_eval nodef ?_
  cases hc : codeAmong pos ps.toList with
  | some cv =>
    obtain ⟨c', rfl, hco⟩ := told pos cv hc
    refine PySem.W.kla_makeFunctionHit (mg := X.mg) (c := c) (P := P) (ps := ps) (closure_ok free) I.ok.glob (I.mod.glob.keeps I.bk) code (tb.code.keeps I.bk) gP tr hc bP fun ctv h' tk hx sz => ?_
    exact go h'.objs.size c' ((X.mg "__name__").getD .none) ctv H _ (I.kept (t' := tk) fun b o e => Heap.get?_push_of_some _ (hx b o e)) (.inl rfl) t0 (Heap.get?_push_size _ rfl) (I.hok.fresh sz) (nofr _ sz) hco
  | none =>
    refine PySem.W.kla_makeFunction (mg := X.mg) (c := c) (P := P) (ps := ps) (closure_ok free) I.ok.glob (I.mod.glob.keeps I.bk) code (tb.code.keeps I.bk) gP tr hc tb.gP bP fun c' ctv h' tk hx ge lt rec htb => ?_
    obtain ⟨c2, oc, vs, t, e2, hoc, hd, hv⟩ := rec
    cases e2
    have sz : s.heap.objs.size ≤ h'.objs.size := Nat.le_trans ge (Nat.le_of_lt lt)
    have nC : H c' = none := I.hok.fresh ge
    have J := inv_table (t' := tk) (more := #[rawInt pos.line, rawInt pos.col, .ref c']) (h' := h'.push (PySem.W.kla_obj "<lambda>" (X.env.qual ++ "<lambda>") params body scope (cloFrom X.env.cells scope.names []) ((X.mg "__name__").getD .none) c' ctv)) I hP
      (fun b o hb e => Heap.get?_push_of_some _ (hx b o hb e)) (Heap.get?_push_of_some _ htb) ge ⟨oc, vs, t, Heap.get?_push_of_some _ hoc, hd, hv⟩
    have m : Made P (X.env.qual ++ "<lambda>") H (upd (upd H P (.tbl (ps ++ #[rawInt pos.line, rawInt pos.col, .ref c']))) c' (CodeO c' (X.env.qual ++ "<lambda>"))) := .inr ⟨ps, _, c', hP, nC, rfl⟩
    have eL : (ps ++ #[rawInt pos.line, rawInt pos.col, .ref c']).toList = ps.toList ++ [rawInt pos.line, rawInt pos.col, .ref c'] := by simp
    refine go h'.objs.size c' ((X.mg "__name__").getD .none) ctv _ _ J m (fun p hp => ?_) (Heap.get?_push_size _ rfl) ?_ (nofr _ sz) upd_same
    · rcases Decidable.em (p.1 = P) with hb | hb
      · rw [one p hp hb, hb]
        refine ⟨_, by rw [upd_ne (ne_of_none hP nC), upd_same], by rw [eL]; exact PySem.TriplesOk_snoc _ _ _ _ tr, fun p' cv hcv => ?_⟩
        rw [eL] at hcv
        rcases among_app _ tr hcv with z | z
        · obtain ⟨c0, e1, e2⟩ := told p' cv z
          exact ⟨c0, e1, m.ext _ _ e2 codeO_ne⟩
        · exact ⟨c', z, upd_same⟩
      · obtain ⟨qs, a1, a2, a3⟩ := t0 p hp
        refine ⟨qs, by rw [upd_ne (ne_of_none a1 nC), upd_ne hb]; exact a1, a2, fun p' cv hcv => ?_⟩
        obtain ⟨c0, e1, e2⟩ := a3 p' cv hcv
        exact ⟨c0, e1, m.ext _ _ e2 codeO_ne⟩
    · rw [upd_ne (Nat.ne_of_gt lt), upd_ne (Nat.ne_of_gt (Nat.lt_of_lt_of_le (Heap.lt_size gP) sz))]
      exact I.hok.fresh sz
end
/-- x(lambda: ..), x a def that calls what it got -/
def tLamZ (P : Addr) (q : Str) (T : List (Addr × Str)) (TT : (XK → Hp → VK → Prop) → Hp → VK → Prop) (t : XK → TE) : TE := fun σ H Q => LamX.Tabs T H ∧ ∀ H1, Made P q H H1 → LamX.Tabs T H1 → TT (fun E H' Q' => t E σ H' Q') H1 Q
open LamX in
theorem pe_tell {X : Cx} {T : List (Addr × Str)} {TT : (XK → Hp → VK → Prop) → Hp → VK → Prop} {x a : Str} {g c P : Addr} {k : Nat} {pg : Arguments} {bg : List Stmt} {sg : Scope} {dV kV doc pm cdv ct oc : Value} {an od : Option Addr} {osl : Array (Option Value)} {Ng : List Str}
    {params : Arguments} {body : Expr} {scope : Scope} {t : XK → TE} {p lpos pos : Pos} (lk : X.K.lookup g = some ⟨oc, od, .func (PySem.W.fnOf x x pg bg sg dV kV doc pm an cdv ct), osl⟩) (hcg : PySem.W.codeIn X.K cdv x = true) (hk : PySem.W.keepIn X.K (.ref g) = true)
    (hb : L2.Binds X.K (PySem.W.fnOf x x pg bg sg dV kV doc pm an cdv ct) [a] []) (Sg : FnScope Ng [a] sg) (hNg : Ng[0]? = some a) (hva : Vis sg a) (hG : GivesTo X Ng x sg g cdv bg a (X.env.qual ++ "<lambda>") TT)
    (hg : Gl X x) (hm : X.mg x = some (.ref g)) (tb : TabB X.base X.mg c P) (code : X.env.code = .ref c) (mem : (P, X.env.qual ++ "<lambda>") ∈ T) (one : ∀ p ∈ T, p.1 = P → p.2 = X.env.qual ++ "<lambda>") (hr : Room (k + 2) X.A) (L : LamS X.env.scope scope) (nodef : defaultsOf params X.env = ([], []))
    (bind : ∀ (q : Str) (cl : List (Str × Addr)) (pm cv ctv : Value), bindArgs (PySem.W.kla_fn "<lambda>" q params body scope cl pm cv ctv) ⟨[], []⟩ = pure [])
    (run : ∀ (A : Around) (outer : List Env) (s : Shared) (H : Hp) (E : XK) (f c' : Addr), Room k (A.deeper (lamEnv X scope s.heap.objs.size f c')) → PE (lamCx X A outer s H E scope f c') body (t E))
    (hdb : (x == ("__debug__" : Str)) = false := by decide) (hd : (a == ("__debug__" : Str)) = false := by decide) (hcd : (a == ("__classdict__" : Str)) = false := by decide) :
    PE X (.Call (.Name x p) [.Lambda params body scope lpos] [] pos) (tLamZ P (X.env.qual ++ "<lambda>") T TT t) := by
  refine ⟨fun pins s σ H Q I ⟨t0, h⟩ => wpAny_Call_Name_kw (ld_glob I hg hm (PySem.W.callWith_K (h₀ := X.base) I.ok.mod.kin hk ?_ (by rfl) (by rfl)) hdb)⟩
  show wpAny _ _ (spliced ((false, eval (.Lambda params body scope lpos) X.env) :: backTo pos (starEach [] X.env))) _ _ s
  refine Calls.spliced_cons (lam_at I tb code mem one t0 nodef (L.has I.ok) fun f c' pm' ctv H1 s' I1 m T1 hf hfn hfr hco => Calls.spliced_nil ⟨I1.kIn, wpAny_call (codeAny_mono (?_ : codeAny (model X.prog X.w) X.A (.call (.ref g) ⟨[.ref f], []⟩) (CR C8.CX0 X.stack X.prog X.w H1 s' Q C8.E0) s') fun r s2 q2 => ?_)⟩)
  · refine run_ofS (N := Ng) (ps := [a]) (us := [.ref f]) (vs := [.ref f]) lk hcg Sg hr I1.env0 (hb s' [.ref f] I1.kIn rfl) (.cons rfl .nil) rfl fun hr' => ?_
    obtain ⟨t', ht', q'⟩ := hG f c' s' H1 Q (fun E H' Q' => t E σ H' Q') (fun W pn xe E p1 p2 tk hW => pe_act (i := 0) I1 L hf hfn hfr (bind _ _ _ _ _) tk hW hr' (fun A outer s H hr2 => run A outer s H E f c' hr2) hNg hva hd hcd) hco (h H1 m T1)
    exact ⟨t', ht'.nox, q'⟩
  · cases r with
    | error e => exact q2.elim
    | ok fl =>
      cases fl with
      | ret u => exact I1.after q2
      | next => exact q2.elim
      | brk => exact q2.elim
      | cont => exact q2.elim
end PD

set_option Elab.async false
set_option linter.all false
set_option maxRecDepth 100000
set_option maxHeartbeats 4000000
/-! PD15: exceptions by data: a promise that may raise, raising, calls that may raise, how a lambda's end is told. -/
namespace PD
open PySem PySem.Spec PyProof.Rows L2
/-- the wish for exceptions -/
def Xd (z : Zp) (hs : Addr → Prop) (H : Hp) (PX : Addr → List (Str × D) → Prop) (E : XK) : Prop := ∀ C fs dd H' vs, ExZ z H H' → Ok z hs H' → H' dd = some (.xd vs) → RF z (hid z hs H') vs fs → PX C fs → E (.ref C) (some dd) H'
theorem Xd.back {z : Zp} {hs : Addr → Prop} {H H1 : Hp} {PX : Addr → List (Str × D) → Prop} {E : XK} (x : Xd z hs H PX E) (e : ExZ z H H1) : Xd z hs H1 PX E := fun C fs dd H' vs e' => x C fs dd H' vs (e.trans e')
theorem Xd.imp {z : Zp} {hs : Addr → Prop} {H : Hp} {PX PX' : Addr → List (Str × D) → Prop} {E : XK} (x : Xd z hs H PX E) (i : ∀ C fs, PX' C fs → PX C fs) : Xd z hs H PX' E := fun C fs dd H' vs e p g r q => x C fs dd H' vs e p g r (i C fs q)
/-- as spD; or it raises a new exception of the class C whose fields stand for fs -/
def spDX (n : Nat) (Pre : List D → Prop) (Post : List D → D → Prop) (PX : List D → Addr → List (Str × D) → Prop) : Sp := fun vs H Q E => ∃ z hs ds, ds.length = n ∧ Pre ds ∧ Ok z hs H ∧ RA z (hid z hs H) vs ds ∧ Wd z hs H (Post ds) Q ∧ Xd z hs H (PX ds) E
theorem spDX_len {n : Nat} {Pre : List D → Prop} {Post : List D → D → Prop} {PX : List D → Addr → List (Str × D) → Prop} (vs : List V) (H : Hp) (Q : VK) (E : XK) (h : spDX n Pre Post PX vs H Q E) : vs.length = n := by
  obtain ⟨z, hs, ds, hl, _, _, r, _⟩ := h
  rw [r.length, hl]
section
variable {P : Program} {w : World} {K : PySem.W.Frag} {mg : Str → Option Value} {base : Heap} {k : Nat} {f : Addr} {x qual : Str} {st : Stmt} {fd : FuncData} {N ps : List Str} {n : Nat} {Pre : List D → Prop} {Post : List D → D → Prop} {PX : List D → Addr → List (Str × D) → Prop}
theorem okX (F : Fun K x qual st f fd) (S : FnScope N ps (defScope st)) (hn : n = ps.length)
    (h : ∀ (cdv : Value) (A : Around) (outer : List Env) (s : Shared) (H : Hp) (E : XK), Room k (A.deeper (envOfC qual (defScope st) s.heap.objs.size f cdv)) →
      ∃ t, PSs (cxOf (L2.CX P w) P w K mg base N qual (defScope st) f cdv A outer s H E) (defBody st) t ∧ ∀ z ds, ds.length = n → Pre ds → X1 z t (startS N ds) { nx := fun _ => Post ds .non, rt := Post ds, px := PX ds, E := E }) :
    FnOk P w K mg base (L2.CX P w) (k + 1) f fd ps (spDX n Pre Post PX) := by
  refine F.okX S (fun vs H Q E q => by rw [spDX_len vs H Q E q, hn]) (fun cdv A outer s H vs Q E hr q => ?_)
  obtain ⟨t, h1, h2⟩ := h cdv A outer s H E hr
  refine ⟨t, h1, ?_⟩
  obtain ⟨z, hs, ds, hl, hp, p, r, w, xd⟩ := q
  have e0 : ∀ a, hsO hs [] a → hs a := fun a h => h.elim id (fun h => by cases h)
  have st : St1 z hs H (L2.start N vs) (startS N ds) [] := { ok := p, nd := List.nodup_nil, off := (fun _ h => by cases h), ss := ss_start (RA.mono (hid_less e0) _ _ r) }
  exact h2 z ds hl hp hs _ H [] st _ ⟨fun σ' H' ρ' O' e' s' q => w _ H' _ (fun a o n k => e'.keep a o n (fun h => by cases h) k) s'.ok .non q, fun v H' d k p' r' q => w v H' d (fun a o n e => k a o n (fun h => by cases h) e) p' r' q, fun _ _ _ _ _ _ q => q.elim, fun _ _ _ _ _ _ q => q.elim,
    fun C fs dd H' vs k p g r q => xd C fs dd H' vs (fun a o n e => k a o n (fun h => by cases h) e) p g r q⟩
end
section
variable {z : Zp} {hs : Addr → Prop} {H : Hp} {ρ : List Sl} {O : List Addr} {out : Out} {tr : TA} {n : Nat} {Pre : List D → Prop} {Post : List D → D → Prop} {PX : List D → Addr → List (Str × D) → Prop}
theorem St1.seeA {σ : L2.St} (s : St1 z hs H σ ρ O) {Pd : List D → Prop} (h : EA z tr (ρ.map Sl.see) Pd) {Q : List V → Hp → Prop} (k : ∀ v H' d, ExZ z H H' → St1 z hs H' σ ρ O → RA z (hid z hs H') v d → Pd d → Q v H') : tr σ H Q :=
  h hs σ H s.ok s.sr Q fun v H' d e p r q => k v H' d e (s.next e p) r q
theorem Went.xd {F : Ends} (w : Went z hs H O out F) {H1 : Hp} (e : ExZ z H H1) {PX : Addr → List (Str × D) → Prop} (i : ∀ C fs, PX C fs → out.px C fs) : Xd z hs H1 PX out.E := fun C fs dd H' vs e' p g r q => w.ex C fs dd H' vs (fun a o n _ h => e' a o n (e a o n h)) p g r (i C fs q)
/-- a call that may raise, its answer dropped -/
theorem x_dropX (h : EA z tr (ρ.map Sl.see) fun ds => ds.length = n ∧ Pre ds ∧ (∀ d, Post ds d → out.nx ρ) ∧ ∀ C fs, PX ds C fs → out.px C fs) : X1 z (tDrop (tCall (spDX n Pre Post PX) [] out.E tr)) ρ out := fun hs σ H O s F w =>
  s.seeA h fun vs H1 ds e1 s1 rs ⟨hn, hp, hq, hx⟩ => ⟨z, hs, ds, hn, hp, s1.ok, by rw [List.append_nil]; exact rs, fun v H2 d e2 p2 r q => w.nx _ H2 _ O (.of (e1.trans e2)) (s1.next e2 p2) (hq d q), w.xd e1 hx⟩
/-- .. returned -/
theorem x_retX (h : EA z tr (ρ.map Sl.see) fun ds => ds.length = n ∧ Pre ds ∧ (∀ d, Post ds d → out.rt d) ∧ ∀ C fs, PX ds C fs → out.px C fs) : X1 z (tRet (tCall (spDX n Pre Post PX) [] out.E tr)) ρ out := fun hs σ H O s F w =>
  s.seeA h fun vs H1 ds e1 s1 rs ⟨hn, hp, hq, hx⟩ => ⟨z, hs, ds, hn, hp, s1.ok, by rw [List.append_nil]; exact rs, fun v H2 d e2 p2 r q => w.rt v H2 d (fun a o n _ h => e2 a o n (e1 a o n h)) p2 r (hq d q), w.xd e1 hx⟩
/-- .. given to a name -/
theorem x_asgX {i : Nat} (h : EA z tr (ρ.map Sl.dat) fun ds => ds.length = n ∧ Pre ds ∧ (∀ d, Post ds d → out.nx (ρ.set i (.va d))) ∧ ∀ C fs, PX ds C fs → out.px C fs) : X1 z (tAsg (tCall (spDX n Pre Post PX) [] out.E tr) (gName i)) ρ out := fun hs σ H O s F w =>
  s.evA h fun vs H1 ds e1 s1 rs ⟨hn, hp, hq, hx⟩ => ⟨z, hsO hs O, ds, hn, hp, s1.okO, by rw [List.append_nil]; exact rs, fun v H2 d e2 p2 r q => by
      have s2 := s1.next e2 (okO_ok p2)
      exact g_name (hq d q) hs σ H2 O s2 v r _ (w.nx.back (.of (e1.trans e2))),
    fun C fs dd H' vs e' p g r q => w.ex C fs dd H' vs (fun a o n _ h => e' a o n (e1 a o n h)) (okO_ok p) g (RF.mono (hid_less fun a h => .inl h) _ _ r) (hx C fs q)⟩
/-- raise C(e, ..), C's fields gs in the parameters' order -/
theorem x_raise {C : Addr} {gs : List Str} {ts : TS} (et : ts = fun _ σ H => tMkX C (spXI C gs) tr σ H out.E) (h : EA z tr (ρ.map Sl.see) fun ds => ds.length = gs.length ∧ gs ≠ [] ∧ gs.length ≤ 1000 ∧ out.px C (gs.zip ds).reverse) : X1 z ts ρ out := fun hs σ H O s F w => by
  subst et
  refine s.seeA h fun vs H1 ds e1 s1 rs ⟨hl, hne, hz, q⟩ => ⟨by rw [rs.length, hl]; exact hz, fun a n => ⟨a, vs, rfl, by rw [rs.length, hl], upd_same, fun H' k tb g => ⟨rfl, ?_⟩⟩⟩
  rw [if_neg hne] at g
  obtain ⟨d, nd, h1, h2⟩ := g
  have nda : d ≠ a := fun e => by rw [e, upd_same] at nd; cases nd
  rw [upd_ne nda] at nd
  refine ⟨d, _, h1, h2, nd, ?_⟩
  have old : ∀ b o, H1 b = some o → H' b = some o := fun b o hb => k b o (ne_of_none hb n) (by rw [upd_ne (ne_of_none hb n)]; exact hb)
  have ex : Ex H1 (upd (del H' a) d (.xd (gs.zip vs).reverse)) := fun b o hb => by
    rw [upd_ne (ne_of_none hb nd), del_ne (ne_of_none hb n)]
    exact old b o hb
  have p1 : Ok z hs (upd (del H' a) d (.xd (gs.zip vs).reverse)) := s1.ok.next (.of ex) (s1.ok.pot.keep ex fun b ps hb => by
    by_cases hbd : b = d
    · subst hbd
      rw [upd_same] at hb
      cases hb
    · rw [upd_ne hbd] at hb
      by_cases hba : b = a
      · subst hba
        rw [del_same] at hb
        cases hb
      · rw [del_ne hba] at hb
        have h0 := tb b ps hb
        rwa [upd_ne hba] at h0)
  refine w.ex C _ d _ _ (fun b o nb _ hb => ex b o (e1 b o nb hb)) p1 upd_same ?_ q
  exact rf_rev (rf_zip _ _ _ (RA.mono (exz_hid (.of ex)) _ _ rs))
end
/-! ### a lambda's body -/
def E1X (z : Zp) (t : XK → TE) (ρ : List (Option D)) (P : D → Prop) (PX : Addr → List (Str × D) → Prop) : Prop := ∀ hs σ H, Ok z hs H → SR z (hid z hs H) σ ρ → ∀ (E : XK) (Q : VK), Wd z hs H P Q → Xd z hs H PX E → t E σ H Q
section
variable {z : Zp} {ρ : List (Option D)} {P : D → Prop} {PX : Addr → List (Str × D) → Prop} {tr tk : TA} {n : Nat} {Pre : List D → Prop} {Post : List D → D → Prop} {PX0 : List D → Addr → List (Str × D) → Prop}
theorem ex_call (h : EA z tr ρ fun ds => ds.length = n ∧ Pre ds ∧ (∀ d, Post ds d → P d) ∧ ∀ C fs, PX0 ds C fs → PX C fs) : E1X z (fun E => tCall (spDX n Pre Post PX0) [] E tr) ρ P PX := fun hs σ H p s E Q w x =>
  h hs σ H p s _ fun vs H1 ds e1 p1 rs ⟨hn, hp, hq, hx⟩ => ⟨z, hs, ds, hn, hp, p1, by rw [List.append_nil]; exact rs, (w.back e1).imp hq, (x.back e1).imp hx⟩
theorem ex_callK {gV : List V → List V → List V} {gD : List D → List D → List D} (hg : ∀ {zz : Zp} {H : Hp} {vs zs : List V} {ds es : List D}, RA zz H vs ds → RA zz H zs es → RA zz H (gV vs zs) (gD ds es))
    (h : EA z tr ρ fun ds => EA z tk ρ fun es => (gD ds es).length = n ∧ Pre (gD ds es) ∧ (∀ d, Post (gD ds es) d → P d) ∧ ∀ C fs, PX0 (gD ds es) C fs → PX C fs) : E1X z (fun E => tCallK (spDX n Pre Post PX0) gV E tr tk) ρ P PX := fun hs σ H p s E Q w x =>
  h hs σ H p s _ fun vs H1 ds e1 p1 rs h1 => h1 hs σ H1 p1 (s.mono (exz_hid e1)) _ fun zs H2 es e2 p2 rz ⟨hn, hp, hq, hx⟩ =>
    ⟨z, hs, _, hn, hp, p2, hg (RA.mono (exz_hid e2) _ _ rs) rz, (w.back (e1.trans e2)).imp hq, (x.back (e1.trans e2)).imp hx⟩
end
/-! ### how it ends, told -/
structure Cl3 where
  c : Value
  en : List (Str ⊕ Str)
  k1 : V
  k2 : V
  v1 : Value
  v2 : Value
def entTE (K : PySem.W.Frag) (i : Nat) (a : Addr) (cls : Value) (d : Option Addr) : Str ⊕ Str → TE
  | .inl w => tC (.str w)
  | .inr f => tXv K a cls d f (tVar i)
def entTA (K : PySem.W.Frag) (i : Nat) (a : Addr) (cls : Value) (d : Option Addr) (k1 k2 : V) : List (Str ⊕ Str) → TA
  | [] => tCons (tAndV (tCB (rIsC K a cls d) (tCons (tVar i) (tCons (tC k1) tNil))) (tCB (rIsC K a cls d) (tCons (tVar i) (tCons (tC k2) tNil)))) tNil
  | e :: r => tCons (entTE K i a cls d e) (entTA K i a cls d k1 k2 r)
def suTS (K : PySem.W.Frag) (i j : Nat) (c : Cl3) (a : Addr) (cls : Value) (d : Option Addr) : TS := tAsg (tLst (entTA K i a cls d c.k1 c.k2 c.en)) (gName j)
inductive EntsD (K : PySem.W.Frag) (C : Addr) (fs : List (Str × D)) : List (Str ⊕ Str) → List D → Prop
  | nil : EntsD K C fs [] []
  | word {w : Str} {r : List (Str ⊕ Str)} {ds : List D} : EntsD K C fs r ds → EntsD K C fs (.inl w :: r) (.str w :: ds)
  | fld {f : Str} {d : D} {r : List (Str ⊕ Str)} {ds : List D} : PySem.W.findIn K (.ref C) f = some none → fs.lookup f = some d → EntsD K C fs r ds → EntsD K C fs (.inr f :: r) (d :: ds)
inductive Tells (K : PySem.W.Frag) (C : Addr) (fs : List (Str × D)) : List Cl3 → List D → Prop
  | here {c : Cl3} {r : List Cl3} {ds : List D} {b1 b2 : Bool} : PySem.W.exmOne K (.ref C) c.c = some true → EntsD K C fs c.en ds → PySem.W.kitOne K (.ref C) c.v1 = some b1 → PySem.W.kitOne K (.ref C) c.v2 = some b2 → Tells K C fs (c :: r) (ds ++ [.bl (b1 && b2)])
  | next {c : Cl3} {r : List Cl3} {ds : List D} : PySem.W.exmOne K (.ref C) c.c = some false → Tells K C fs r ds → Tells K C fs (c :: r) ds
section
variable {z : Zp} {K : PySem.W.Frag} {C a dd : Addr} {fs : List (Str × D)} {vs : List (Str × V)} {H G : Hp} {σ : L2.St} {i j : Nat}
theorem ents_run (T : ExcC K C) (hd : H dd = some (.xd vs)) (rf : RF z G vs fs) (hi : σ[i]? = some (some (.ref a))) {k1 k2 : V} {v1 v2 : Value} (o1 : ∀ u, RelV k1 u → u = v1) (o2 : ∀ u, RelV k2 u → u = v2) {b1 b2 : Bool} (e1 : PySem.W.kitOne K (.ref C) v1 = some b1) (e2 : PySem.W.kitOne K (.ref C) v2 = some b2) :
    ∀ {en : List (Str ⊕ Str)} {ds : List D}, EntsD K C fs en ds → ∀ {Q : List V → Hp → Prop}, (∀ us, RA z G us (ds ++ [.bl (b1 && b2)]) → Q us H) → entTA K i a (.ref C) (some dd) k1 k2 en σ H Q := by
  intro en ds h
  induction h with
  | nil =>
    intro Q q
    refine ⟨.ref a, hi, C, dd, vs, k1, v1, b1, rfl, rfl, T, rfl, hd, o1, e1, b1, rfl, ?_⟩
    cases b1 with
    | false => exact q _ (.cons (.bl _) .nil)
    | true => exact ⟨.ref a, hi, C, dd, vs, k2, v2, b2, rfl, rfl, T, rfl, hd, o2, e2, q _ (.cons (.bl _) .nil)⟩
  | word _ ih =>
    intro Q q
    exact ih fun us r => q _ (.cons (.str _) r)
  | fld hn hl _ ih =>
    intro Q q
    obtain ⟨v, ev, r1⟩ := rf.lookup hl
    exact ⟨.ref a, hi, rfl, C, dd, vs, v, rfl, T, hn, rfl, hd, ev, ih fun us r => q _ (.cons r1 r)⟩
theorem EntsD.len {en : List (Str ⊕ Str)} {ds : List D} (h : EntsD K C fs en ds) : ds.length = en.length := by
  induction h with
  | nil => rfl
  | word _ ih => simp [ih]
  | fld _ _ _ ih => simp [ih]
def Cl3.Ok (c : Cl3) : Prop := (∀ u, RelV c.k1 u → u = c.v1) ∧ (∀ u, RelV c.k2 u → u = c.v2) ∧ c.en.length ≤ 100
theorem tells_run (T : ExcC K C) (hd : H dd = some (.xd vs)) (rf : RF z G vs fs) {cl : List Cl3} (ok : ∀ c ∈ cl, c.Ok) {ds : List D} (t : Tells K C fs cl ds) {D0 : Ends} {W0 : WX} (ij : i ≠ j) (li : i < σ.length) (lj : j < σ.length)
    (q : ∀ p us σ', H p = none → RA z G us ds → σ'[j]? = some (some (.ref p)) → D0.nx σ' (upd H p (.lst us))) : wAsM K W0 D0 (cl.map fun c => (c.c, i, suTS K i j c)) (.ref C) (some dd) σ H := by
  induction t with
  | @next c r ds e _ ih => exact ⟨false, e, (fun h => nomatch h), fun _ => ih (fun c hc => ok c (List.mem_cons_of_mem _ hc)) q⟩
  | @here c r ds b1 b2 e en k1 k2 =>
    obtain ⟨o1, o2, hl⟩ := ok c (List.mem_cons_self ..)
    refine ⟨true, e, fun _ a _ => ?_, fun h => nomatch h⟩
    refine ents_run T hd rf (by rw [List.getElem?_set_self li]) o1 o2 k1 k2 en fun us r => ⟨?_, fun p n => ?_⟩
    · rw [r.length, List.length_append, en.len, sizeLine_eq]
      show c.en.length + 1 ≤ _
      omega
    · refine q p us _ n r ?_
      rw [List.getElem?_set_ne ij, List.getElem?_set_self (by rw [List.length_set]; exact lj)]
end
/-- what a def that tells asks of the lambda's reading, and what it answers -/
def TTd (z : Zp) (K : PySem.W.Frag) (cl : List Cl3) : (XK → Hp → VK → Prop) → Hp → VK → Prop := fun tl H Q => ∃ (hs : Addr → Prop) (Pn : Prop) (PX : Addr → List (Str × D) → Prop), Ok z hs H ∧
  (∀ H1 E Q', ExZ z H H1 → Ok z hs H1 → (∀ v H', ExZ z H1 H' → Ok z hs H' → Pn → Q' v H') → Xd z hs H1 PX E → tl E H1 Q') ∧
  (Pn → Wd z hs H (fun d => d = .lst [.str "told"]) Q) ∧ ∀ C fs, PX C fs → ExcC K C ∧ ∃ ds, Tells K C fs cl ds ∧ Wd z hs H (fun d => d = .lst ds) Q
/-- a() as a statement: the lambda runs -/
def tDeed (n : Nat) (f c' : Addr) (q : Str) (tl : XK → Hp → VK → Prop) : WX → TS := fun W D σ H => ∃ Ech : XK, (∀ cls d σ' H', Ech cls d H' → σ'.length = n → W cls d σ' H') ∧ σ[0]? = some (some (.ref f)) ∧ H c' = some (LamX.CodeO c' q) ∧ tl Ech H fun _ H' => D.nx σ H'
theorem takes_len {X : Cx} {W : WX} (t : Takes X W) : Takes X (fun cls d σ H => σ.length = X.N.length → W cls d σ H) := fun u s' ⟨a, B, sI, pins, σ, H, cls, d, e, I, nb, up, sky, na, os, ag, w⟩ =>
  t u s' ⟨a, B, sI, pins, σ, H, cls, d, e, I, nb, up, sky, na, os, ag, w I.len⟩
theorem told_run {z : Zp} {K : PySem.W.Frag} {cl : List Cl3} {W0 : WX} (ok : ∀ c ∈ cl, c.Ok) {tl : XK → Hp → VK → Prop} {H : Hp} {Q : VK} {f c' : Addr} {q : Str} (hc : H c' = some (LamX.CodeO c' q)) (h : TTd z K cl tl H Q) {nx : L2.St → Hp → Prop} :
    tSeq (tAsg (tLst (tCons (tC (.str "told")) tNil)) (gName 1)) (tSeq (fun D σ H => tDeed 3 f c' q tl (wAsM K W0 D (cl.map fun c => (c.c, 2, suTS K 2 1 c))) D σ H) (tRet (tVar 1))) { nx := nx, rt := Q } [some (.ref f), none, none] H := by
  obtain ⟨hs, Pn, PX, p, run, n1, n2⟩ := h
  refine ⟨by rw [sizeLine_eq]; decide, fun P n => ?_⟩
  obtain ⟨m1, m2⟩ := p.off n
  have e1 : ExZ z H (upd H P (.lst [.str "told"])) := ExZ.new n
  have p1 := p.new n (o := .lst [.str "told"])
  refine ⟨fun cls d H' => ∃ C fs dd vs, cls = .ref C ∧ d = some dd ∧ PX C fs ∧ ExZ z (upd H P (.lst [.str "told"])) H' ∧ Ok z hs H' ∧ H' dd = some (.xd vs) ∧ RF z (hid z hs H') vs fs, ?_, rfl, ?_, run _ _ _ e1 p1 (fun v H' e2 p2 hn => ?_) fun C fs dd H' vs e2 p2 g r x => ⟨C, fs, dd, vs, rfl, rfl, x, e2, p2, g, r⟩⟩
  · rintro cls d σ' H' ⟨C, fs, dd, vs, rfl, rfl, x, e2, p2, g, r⟩ hl
    obtain ⟨T, ds, t, w⟩ := n2 C fs x
    refine tells_run T g r ok t (by decide) (by rw [hl]; decide) (by rw [hl]; decide) fun P2 us σ2 n' ra hj => ?_
    refine ⟨.ref P2, hj, ?_⟩
    exact new_w ((w.back e1).back e2) p2 n' (fun H3 h1 h2 => .lst h1 (RA.mono h2 _ _ ra)) rfl
  · rw [upd_ne (ne_of_none hc n)]
    exact hc
  · refine ⟨.ref P, rfl, (((n1 hn).back e1).back e2).here p2 (.lst (a := P) ?_ (.cons (.str _) .nil)) rfl⟩
    rw [hid_ne m1 m2]
    exact e2 P _ m1 upd_same
/-- .. whatever pot, T the tables -/
def TTT (T : List (Addr × Str)) (K : PySem.W.Frag) (cl : List Cl3) : (XK → Hp → VK → Prop) → Hp → VK → Prop := fun tl H Q => ∃ z : Zp, z.tabs = T ∧ TTd z K cl tl H Q
/-- x(lambda: ..) told -/
theorem e_told {z : Zp} {K : PySem.W.Frag} {cl : List Cl3} {P : Addr} {q : Str} {T : List (Addr × Str)} {t : XK → TE} {ρ : List (Option D)} {Pd : D → Prop} {Pn : D → Prop} {PX : Addr → List (Str × D) → Prop} (hz : z.tabs = T) (h : E1X z t ρ Pn PX) (hn : ∀ d, Pn d → Pd (.lst [.str "told"])) (hx : ∀ C fs, PX C fs → ExcC K C ∧ ∃ ds, Tells K C fs cl ds ∧ Pd (.lst ds)) :
    E1 z (tLamZ P q T (TTT T K cl) t) ρ Pd := fun hs σ H p s Q w => by
  subst hz
  refine ⟨p.pot.tabs, fun H1 m T1 => ⟨z, rfl, ?_⟩⟩
  have e1 : ExZ z H H1 := fun a o n e => m.ext a o e fun ps z' => by
    subst z'
    exact n (.inr (p.pot.only a ps e))
  have p1 : Ok z hs H1 := p.next e1 ⟨fun a ha => by
    obtain ⟨i, j, e, r⟩ := p.pot.two a ha
    exact ⟨i, j, m.ext _ _ e (fun ps z' => by cases z'), r⟩, T1, fun a ps e => by
      obtain ⟨qs, e'⟩ := m.tbl e
      exact p.pot.only a qs e'⟩
  refine ⟨hs, ∃ d, Pn d, PX, p1, fun H2 E Q' e2 p2 wn x => h hs σ H2 p2 (s.mono (exz_hid (e1.trans e2))) E Q' (fun v H' d e3 p3 _ hd => wn v H' e3 p3 ⟨d, hd⟩) x, fun ⟨d, hd⟩ => (w.back e1).imp fun d' e => by rw [e]; exact hn d hd, fun C fs x => ?_⟩
  obtain ⟨T, ds, tl, q⟩ := hx C fs x
  exact ⟨T, ds, tl, (w.back e1).imp fun d' e => by rw [e]; exact q⟩
end PD

set_option Elab.async false
set_option linter.all false
set_option maxRecDepth 100000
set_option maxHeartbeats 4000000
/-! KX: what the laws with own exceptions and lambdas share: classes that are raised; defs whose code object is known; promises by tables. -/
namespace PD
open PySem PySem.Spec PyProof.Rows L2
/-- a base of the text: it has the built-in's __init__ -/
structure Bs (K : PySem.W.Frag) (mg : Str → Option Value) (nm : Str) (initId : String) (W : Addr) : Prop where
  g : mg nm = some (.ref W)
  rd : ∃ mc, PySem.W.readsIn K W mc = true ∧ PySem.W.findCls K (.ref W) mc "__init__" = some (.val (.builtin initId))
  ga : PySem.W.specialIn K (.ref W) "__getattribute__" = some (some (.builtin "type.__getattribute__"))
/-- a class of the text -/
structure Cf (K : PySem.W.Frag) (mg : Str → Option Value) (nm qual : Str) (st : Stmt) (newId : String) (bm : List Value) (fs : List Str) (C : Addr) : Prop where
  g : mg nm = some (.ref C)
  ox : OxB K C newId bm
  nf : ∀ f ∈ fs, PySem.W.findIn K (.ref C) f = some none
  ini : ∃ fI fd, PySem.W.findIn K (.ref C) "__init__" = some (some (.ref fI)) ∧ PySem.W.typeIn K (.ref fI) = some (.type "function") ∧ Fun K "__init__" qual st fI fd
def clsB (K : PySem.W.Frag) (newId : String) (bm : List Value) (fs : List Str) (C : Addr) : Bool := oxB K newId bm C && fs.all fun f => decide (PySem.W.findIn K (.ref C) f = some none)
theorem cf_mk {K : PySem.W.Frag} {h : Heap} {mg : Str → Option Value} (KX : K.In h) (G : h.Ns mainGlobals mg) {nm qual : Str} {st : Stmt} {newId : String} {bm : List Value} {fs : List Str} {C fI : Addr} {oc : Value} {od an : Option Addr} {osl : Array (Option Value)} {kV doc pm cdv ct : Value}
    (aC : PySem.W.nsIn K mainGlobals nm = some (some (.ref C))) (ox : clsB K newId bm fs C = true) (a1 : PySem.W.findIn K (.ref C) "__init__" = some (some (.ref fI))) (t1 : PySem.W.typeIn K (.ref fI) = some (.type "function"))
    (l1 : K.lookup fI = some ⟨oc, od, .func (PySem.W.fnOf "__init__" qual (defArgs st) (defBody st) (defScope st) .none kV doc pm an cdv ct), osl⟩) (c1 : PySem.W.codeIn K cdv qual = true) (k1 : PySem.W.keepIn K (.ref fI) = true) : Cf K mg nm qual st newId bm fs C := by
  unfold clsB at ox
  rw [Bool.and_eq_true] at ox
  exact ⟨PySem.W.mg_of KX G aC, oxB_ok ox.1, fun f hf => of_decide_eq_true (List.all_eq_true.mp ox.2 f hf), fI, _, a1, t1, fun_mk (st := st) l1 c1 k1⟩
section
variable {K : PySem.W.Frag} {newId : String} {bm : List Value} {C : Addr} {txt : Str} {vs : List V} {H : Hp} {Q : VK} {E : XK}
theorem rd1 {n0 n1 f : Str} (T : OxB K C newId bm) (hno : PySem.W.findIn K (.ref C) f = some none) (h : spXI C [f] vs H Q E) :
    tSeq (tDrop (tBin K newId bm (tCons (tVar 0) (tCons (tC (.str txt)) tNil)))) (tOset K newId bm f (tVar 0) (tVar 1)) { nx := fun _ H' => Q .non H', rt := Q } (L2.start [n0, n1] vs) H := by
  obtain ⟨a, us, rfl, hl, ha, k⟩ := h
  obtain ⟨v, rfl⟩ := List.length_eq_one_iff.mp hl
  refine ⟨.ref a, rfl, a, C, [.str txt], rfl, by simp, T, ha, v, rfl, .ref a, rfl, a, C, rfl, T, hno, .inl ⟨ha, fun dx n ne => ?_⟩⟩
  refine k _ (fun b o hb e => ?_) (fun b ps e => ?_) ?_
  · rw [upd_ne hb, upd_ne (ne_of_none e n)]; exact e
  · by_cases hb : b = a
    · rw [hb, upd_same] at e
      exact absurd (Option.some.inj e) exo_tbl
    · rw [upd_ne hb] at e
      by_cases hd : b = dx
      · rw [hd, upd_same] at e
        cases e
      · rwa [upd_ne hd] at e
  · rw [if_neg (by simp)]
    exact ⟨dx, n, upd_same, by rw [upd_ne ne, upd_same]; rfl⟩
theorem lenXI {fs : List Str} {m : Nat} (hm : m = fs.length + 1) (vs : List V) (H : Hp) (Q : VK) (E : XK) (h : spXI C fs vs H Q E) : vs.length = m := by
  obtain ⟨a, us, rfl, hl, _⟩ := h
  simp [hl, hm]
end
/-- a class that is raised: fs its fields in the parameters' order -/
structure Rz (P : Program) (w : World) (K : PySem.W.Frag) (mg : Str → Option Value) (base : Heap) (nm : Str) (B newId initId : String) (fs : List Str) (C : Addr) : Prop where
  eb : ExB B newId initId (tailOf B)
  g : mg nm = some (.ref C)
  ox : OxB K C newId (tailOf B)
  nf : ∀ f ∈ fs, PySem.W.findIn K (.ref C) f = some none
  call : ∃ fI fd, PySem.W.findIn K (.ref C) "__init__" = some (some (.ref fI)) ∧ PySem.W.typeIn K (.ref fI) = some (.type "function") ∧ FnOk P w K mg base CX0 1 fI fd ("self" :: fs) (spXI C fs) ∧ Binds K fd ("self" :: fs) []
section
variable {X : Cx} {x : Str} {p pos : Pos} {B newId initId : String} {fs : List Str} {C : Addr} {e : Expr} {es : List Expr} {ta : TA}
theorem pmk_rz (c : Rz X.prog X.w X.K X.mg X.base x B newId initId fs C) (hr : Room 2 X.A) (hx : Passes CX0 X (fun _ _ _ => False)) (hg : Gl X x) (ha : PA X (e :: es) ta)
    (hdb : (x == ("__debug__" : Str)) = false := by decide) (he : starEach (e :: es) X.env = (false, eval e X.env) :: starEach es X.env := by rfl) (hpl : (backTo pos (starEach es X.env)).any (·.1) = false := by rfl) :
    PMk X (.Call (.Name x p) (e :: es) [] pos) (tMkX C (spXI C fs) ta) := by
  obtain ⟨fI, fd, i, t, F, b⟩ := c.call
  exact pmk_ox c.eb c.ox i t F hr b hx hg c.g ha hdb he hpl
end
/-! ### a def whose code object is known -/
structure FunC (K : PySem.W.Frag) (x qual : Str) (st : Stmt) (f : Addr) (fd : FuncData) (c : Addr) : Prop where
  ex : ∃ (oc : Value) (od : Option Addr) (kV doc pm : Value) (an : Option Addr) (ct : Value) (osl : Array (Option Value)),
    fd = PySem.W.fnOf x qual (defArgs st) (defBody st) (defScope st) .none kV doc pm an (.ref c) ct ∧ K.lookup f = some ⟨oc, od, .func fd, osl⟩ ∧ PySem.W.codeIn K (.ref c) qual = true
  kp : PySem.W.keepIn K (.ref f) = true
theorem FunC.to {K : PySem.W.Frag} {x qual : Str} {st : Stmt} {f : Addr} {fd : FuncData} {c : Addr} (F : FunC K x qual st f fd c) : Fun K x qual st f fd := by
  obtain ⟨oc, od, kV, doc, pm, an, ct, osl, e, lk, hc⟩ := F.ex
  exact ⟨⟨oc, od, kV, doc, pm, an, .ref c, ct, osl, e, lk, hc⟩, F.kp⟩
/-- a def that makes lambdas: T the tables -/
structure DfL (K : PySem.W.Frag) (mg : Str → Option Value) (base : Heap) (T : List (Addr × Str)) (x : Str) (st : Stmt) (ps : List Str) (f : Addr) (fd : FuncData) (c P : Addr) : Prop where
  F : FunC K x x st f fd c
  m : mg x = some (.ref f)
  b : Binds K fd ps []
  tb : LamX.TabB base mg c P
  mem : (P, x ++ ".<locals>." ++ "<lambda>") ∈ T
  one : ∀ p ∈ T, p.1 = P → p.2 = x ++ ".<locals>." ++ "<lambda>"
/-- as spD, the tables being T -/
def spDT (T : List (Addr × Str)) (n : Nat) (Pre : List D → Prop) (Post : List D → D → Prop) : Sp := fun vs H Q _ => ∃ z hs ds, z.tabs = T ∧ ds.length = n ∧ Pre ds ∧ Ok z hs H ∧ RA z (hid z hs H) vs ds ∧ Wd z hs H (Post ds) Q
theorem spDT_len {T : List (Addr × Str)} {n : Nat} {Pre : List D → Prop} {Post : List D → D → Prop} (vs : List V) (H : Hp) (Q : VK) (E : XK) (h : spDT T n Pre Post vs H Q E) : vs.length = n := by
  obtain ⟨z, hs, ds, _, hl, _, _, r, _⟩ := h
  rw [r.length, hl]
section
variable {P : Program} {w : World} {K : PySem.W.Frag} {mg : Str → Option Value} {base : Heap} {k : Nat} {f c : Addr} {x qual : Str} {st : Stmt} {fd : FuncData} {N ps : List Str} {n : Nat} {Pre : List D → Prop} {Post : List D → D → Prop} {T : List (Addr × Str)}
theorem okL (F : FunC K x qual st f fd c) (S : FnScope N ps (defScope st)) (hn : n = ps.length)
    (h : ∀ (A : Around) (outer : List Env) (s : Shared) (H : Hp) (E : XK), A.guards = some [] → Room k (A.deeper (envOfC qual (defScope st) s.heap.objs.size f (.ref c))) →
      ∃ t, PSs (cxOf CX0 P w K mg base N qual (defScope st) f (.ref c) A outer s H E).nox (defBody st) t ∧ ∀ z ds, z.tabs = T → ds.length = n → Pre ds → X1 z t (startS N ds) { nx := fun _ => Post ds .non, rt := Post ds }) :
    FnG P w K mg base CX0 (k + 1) f fd ps (spDT T n Pre Post) := by
  obtain ⟨oc, od, kV, doc, pm, an, ct, osl, rfl, lk, hcd⟩ := F.ex
  refine fnG_of lk hcd S (fun vs H Q E q => by rw [spDT_len vs H Q E q, hn]) fun A outer s H vs Q E hg hr q => ?_
  obtain ⟨t, h1, h2⟩ := h A outer s H E hg hr
  obtain ⟨z, hs, ds, hz, hl, hp, p, r, w⟩ := q
  refine ⟨t, h1.nox, ?_⟩
  have e0 : ∀ a, hsO hs [] a → hs a := fun a h => h.elim id (fun h => by cases h)
  have st : St1 z hs H (L2.start N vs) (startS N ds) [] := { ok := p, nd := List.nodup_nil, off := (fun _ h => by cases h), ss := ss_start (RA.mono (hid_less e0) _ _ r) }
  exact h2 z ds hz hl hp hs _ H [] st _ ⟨fun σ' H' ρ' O' e' s' q => w _ H' _ (fun a o n k => e'.keep a o n (fun h => by cases h) k) s'.ok .non q, fun v H' d k p' r' q => w v H' d (fun a o n e => k a o n (fun h => by cases h) e) p' r' q, fun _ _ _ _ _ _ q => q.elim, fun _ _ _ _ _ _ q => q.elim, fun _ _ _ _ _ _ _ _ _ q => q.elim⟩
end
section
variable {z : Zp} {P : D → Prop} {ρ : List (Option D)} {tr : TA} {T : List (Addr × Str)}
theorem e_callT {n : Nat} {Pre : List D → Prop} {Post : List D → D → Prop} {E : XK} (hz : z.tabs = T) (h : EA z tr ρ fun ds => ds.length = n ∧ Pre ds ∧ ∀ d, Post ds d → P d) : E1 z (tCall (spDT T n Pre Post) [] E tr) ρ P := fun hs σ H p s Q w =>
  h hs σ H p s _ fun vs H1 ds e1 p1 rs ⟨hn, hp, hq⟩ => ⟨z, hs, ds, hz, hn, hp, p1, by rw [List.append_nil]; exact rs, (w.back e1).imp hq⟩
end
end PD

set_option Elab.async false
set_option linter.all false
set_option maxRecDepth 100000
set_option maxHeartbeats 4000000
/-! PD16: {k: v} with a tuple as key; sizes of what is shown. -/
namespace PD
open PySem PySem.Spec PyProof.Rows L2
def tDispT1 (tk tv : TE) : TE := fun σ H Q => ∀ p, H p = none → tk σ (upd H p (.dT [])) fun k H1 => tv σ H1 fun v H2 => ∃ (b : Addr) (ks : List Key), k = .ref b ∧ H2 b = some (.tup (ks.map kV)) ∧ H2 p = some (.dT []) ∧ Q (.ref p) (upd H2 p (.dT [(ks, v)]))
theorem pe_dispT1 {X : Cx} {pos : Pos} {ke ve : Expr} {tk tv : TE} (hu : X.A.units + 1 < cLine) (hk : PE X ke tk) (hv : PE X ve tv) : PE X (.Dict [some ke] [ve] pos) (tDispT1 tk tv) := by
  refine ⟨fun pins s σ H Q I q => ?_⟩
  have hn := I.hok.fresh (Nat.le_refl s.heap.objs.size)
  have I1 := I.laid (a := s.heap.objs.size) (o := .dT []) (h' := s.heap.push { cls := .type "dict", data := .dict #[] }) (t' := s.toks) (fun _ _ q => Heap.get?_push_of_some _ q) (Nat.le_refl _) (dt_empty s.heap I.big)
  rw [arm_eval_Dict, show ((evalEachOpt [some ke] X.env).zip ((evalEach [ve] X.env).map fun v => do let x ← v; standAt pos; pure x)) = ([(eval ke X.env, (do let x ← eval ve X.env; standAt pos; pure x))] : List (Sem Value × Sem Value)).map fun p => (some p.1, p.2) from rfl, dictDisplay_pairs _ (by simp) (by simp)]
  refine wpAny_bind (wpAny_standAt (wpAny_bind (wpAny_subDictH (knd := PySem.tupleKind (mixKind X.prog X.w)) (show X.A.units < cLine from Nat.lt_of_succ_lt hu) (by simp) (evalPairs_cons ?_))))
  refine thn (hk.run pins _ σ _ _ I1 (q _ hn)) fun k s1 ⟨x, H1, J1, r1, q1⟩ => ?_
  refine wpAny_bind (thn (hv.run pins _ σ _ _ J1 q1) fun v s2 ⟨y, H2, J2, r2, b, ks, ex, eb, ed, q2⟩ => wpAny_bind (wpAny_standAt (wpAny_pure (evalPairs_nil ?_))))
  subst ex
  obtain rfl : k = Value.ref b := r1
  obtain ⟨_, hd, xs, rel, dd⟩ := dt_of J2.hok ed
  cases rel
  refine ⟨[(ks, b, v)], ⟨rfl, rfl, key_of J2.hok eb, True.intro⟩, dd, fun h' tk dd' hs => wpAny_pure ?_⟩
  obtain ⟨o, es, ep, ho, h2, h3, h4, _, h5⟩ := dd'
  refine ⟨.ref s.heap.objs.size, _, d_write (ob := .dT [(ks, y)]) J2 (by rw [ed]; exact True.intro) hs ⟨o, ho⟩ ⟨by simp [sizeLine_eq], hd, [(ks, b, v)], .cons ⟨rfl, ?_, r2⟩ .nil, o, es, ep, ho, h2, h3, h4, h5⟩, rfl, q2⟩
  rw [upd_ne (ne_of eb ed (fun z => nomatch z))]
  exact eb
end PD

set_option Elab.async false
set_option linter.all false
set_option maxRecDepth 100000
set_option maxHeartbeats 4000000
/-! KY: plain laws: values near to words, texts near to words' texts; sizes of what is shown. -/
namespace PD
open PySem PySem.Spec PyProof.Rows L2
/-! ### sizes -/
structure Sm (n m : Nat) (d : D) : Prop where
  p : isPy d = true
  s : (py d).showable = true
  l : (py d).shown.length ≤ n
  n : dp d ≤ m
theorem Sm.le {n m n' m' : Nat} {d : D} (h : Sm n m d) (hn : n ≤ n' := by omega) (hm : m ≤ m' := by omega) : Sm n' m' d := ⟨h.p, h.s, Nat.le_trans h.l hn, Nat.le_trans h.n hm⟩
theorem Sm.small {n m : Nat} {d : D} (h : Sm n m d) (hn : n ≤ 1000 := by omega) (hm : m ≤ 10 := by omega) : Small d := ⟨h.p, h.s, Nat.le_trans h.l hn, Nat.le_trans h.n hm⟩
theorem smA {n m : Nat} {ds : List D} (h : ∀ d ∈ ds, Sm n m d) : isPyA ds = true ∧ PyData.showableAll (pyA ds) = true ∧ ((PyData.shownAll (pyA ds)).map (·.length)).sum ≤ n * ds.length ∧ (PyData.shownAll (pyA ds)).length = ds.length ∧ dpA ds ≤ m := by
  induction ds with
  | nil => exact ⟨rfl, rfl, Nat.le_refl _, rfl, Nat.zero_le _⟩
  | cons d ds ih =>
    obtain ⟨i1, i2, i3, i4, i5⟩ := ih fun e he => h e (List.mem_cons_of_mem _ he)
    have q := h d (List.mem_cons_self ..)
    refine ⟨?_, ?_, ?_, ?_, ?_⟩
    · simp only [isPyA, q.p, i1, Bool.and_self]
    · simp only [pyA, PyData.showableAll, q.s, i2, Bool.and_self]
    · simp only [pyA, PyData.shownAll, List.map_cons, List.sum_cons, List.length_cons]
      have := q.l
      rw [Nat.mul_add]
      omega
    · simp only [pyA, PyData.shownAll, List.length_cons, i4]
    · simp only [dpA]
      have := q.n
      omega
theorem sm_lst {n m k : Nat} {ds : List D} (h : ∀ d ∈ ds, Sm n m d) (hl : ds.length ≤ k) : Sm ((n + 2) * k + 3) (m + 1) (.lst ds) := by
  obtain ⟨i1, i2, i3, i4, i5⟩ := smA h
  refine ⟨by simpa only [isPy] using i1, by simpa only [py, PyData.showable] using i2, ?_, by simp only [dp]; omega⟩
  simp only [py, PyData.shown]
  have h1 := listText_len_le (PyData.shownAll (pyA ds))
  have h2 : (n + 2) * ds.length ≤ (n + 2) * k := Nat.mul_le_mul_left _ hl
  rw [Nat.add_mul, Nat.add_mul] at h2
  rw [Nat.add_mul]
  omega
theorem sm_tup {n m k : Nat} {ds : List D} (h : ∀ d ∈ ds, Sm n m d) (hl : ds.length ≤ k) : Sm ((n + 2) * k + 3) (m + 1) (.tup ds) := by
  obtain ⟨i1, i2, i3, i4, i5⟩ := smA h
  refine ⟨by simpa only [isPy] using i1, by simpa only [py, PyData.showable] using i2, ?_, by simp only [dp]; omega⟩
  simp only [py, PyData.shown]
  have h1 := tupleText_len_le (PyData.shownAll (pyA ds))
  have h2 : (n + 2) * ds.length ≤ (n + 2) * k := Nat.mul_le_mul_left _ hl
  rw [Nat.add_mul, Nat.add_mul] at h2
  rw [Nat.add_mul]
  omega
theorem sm_non : Sm 4 0 .non := ⟨rfl, rfl, by decide +kernel, Nat.le_refl _⟩
theorem sm_bl (b : Bool) : Sm 5 0 (.bl b) := by cases b <;> exact ⟨rfl, rfl, by decide +kernel, Nat.le_refl _⟩
theorem sm_i0 : Sm 1 0 (.int 0) := ⟨rfl, by decide +kernel, by decide +kernel, Nat.le_refl _⟩
theorem sm_i1 : Sm 1 0 (.int 1) := ⟨rfl, by decide +kernel, by decide +kernel, Nat.le_refl _⟩
theorem sm_i3 : Sm 1 0 (.int 3) := ⟨rfl, by decide +kernel, by decide +kernel, Nat.le_refl _⟩
theorem sm_d0 : Sm 2 1 (.dct []) := ⟨rfl, rfl, by decide +kernel, by decide⟩
/-- signs that are signs -/
def chOk (x : Str) : Prop := ∀ c ∈ x.cps.toList, c < 16 ^ 8
theorem sm_str {x : Str} (h : chOk x) : Sm (10 * x.length + 2) 0 (.str x) := ⟨rfl, rfl, by simp only [py, PyData.shown]; exact StrLaws.reprText_len x h, Nat.le_refl _⟩
theorem ch_sgn {x : Str} (h : sgn x = true) : chOk x := fun c hc => by have := alph_lo ((sgn_iff.mp h).2.2 c hc); omega
theorem ch_add {x y : Str} (h : chOk x) (g : chOk y) : chOk (x ++ y) := fun c hc => by
  have e : (x ++ y).cps.toList = x.cps.toList ++ y.cps.toList := TL.tl_append x y
  rw [e] at hc
  exact (List.mem_append.mp hc).elim (h c) (g c)
theorem sm_d1 {x : Str} (h : sgn x = true) : Sm 100 1 (.dct [(.inr x, .int 1)]) := by
  have h8 := (sgn_iff.mp h).2.1
  have hr := StrLaws.reprText_len x (ch_sgn h)
  refine ⟨rfl, ?_, ?_, by simp [dp, dpK]⟩
  · simp only [py, pyK, kpy, PyData.showable, PyData.showableKv, Bool.true_and, Bool.and_true]
    decide +kernel
  simp only [py, pyK, kpy, PyData.shown, PyData.shownKv]
  have h1 := dictText_len_le [reprText x ++ ": " ++ (toString (1 : Int) : String)]
  refine Nat.le_trans h1 ?_
  simp only [List.map_cons, List.map_nil, List.sum_cons, List.sum_nil, List.length_cons, List.length_nil]
  rw [add_len, add_len]
  have e1 : ((": " : String) : Str).length = 2 := by decide +kernel
  have e2 : (((toString (1 : Int)) : String) : Str).length = 1 := by decide +kernel
  rw [e1, e2]
  omega
/-! ### words by all -/
theorem isW_all (ds : List D) : isW (.tup ds) = (decide (((ds.length : Nat) : Int) ≤ 3) && ds.all isL) := by
  show (_ && ((List.range ds.length).map fun i => isL (ds.getD i .non)).all id) = _
  congr 1
  rw [Bool.eq_iff_iff, all_range, List.all_eq_true]
  refine ⟨fun h d hd => ?_, fun h i hi => ?_⟩
  · obtain ⟨i, hi, rfl⟩ := List.getElem_of_mem hd
    have := h i hi
    rwa [List.getD_eq_getElem?_getD, List.getElem?_eq_getElem hi] at this
  · rw [List.getD_eq_getElem?_getD, List.getElem?_eq_getElem hi]
    exact h _ (List.getElem_mem hi)
theorem isW_gw {d : D} (h : isW d = true) : ∃ k, gw k ∧ d = wd k := by
  cases d with
  | tup ds =>
    rw [isW_all, Bool.and_eq_true, decide_eq_true_eq, List.all_eq_true] at h
    have key : ∀ ds : List D, (∀ d ∈ ds, isL d = true) → ∃ k : List Str, (∀ x ∈ k, sgn x = true) ∧ ds = k.map D.str := by
      intro ds
      induction ds with
      | nil => intro _; exact ⟨[], (fun _ h => by cases h), rfl⟩
      | cons d ds ih =>
        intro g
        obtain ⟨k, hk, e⟩ := ih fun d hd => g d (List.mem_cons_of_mem _ hd)
        have hd := g d (List.mem_cons_self ..)
        cases d with
        | str x => exact ⟨x :: k, fun y hy => (List.mem_cons.mp hy).elim (fun e => by rw [e]; exact hd) (hk y), by rw [e]; rfl⟩
        | _ => cases hd
    obtain ⟨k, hk, e⟩ := key ds h.2
    refine ⟨k, ⟨?_, hk⟩, by rw [e]; rfl⟩
    have h1 := h.1
    rw [e, List.length_map] at h1
    omega
  | _ => cases h
theorem isW_long {k : List Str} (h : 3 < k.length) : isW (wd k) = false := by
  rw [show wd k = .tup (k.map D.str) from rfl, isW_all, Bool.and_eq_false_iff]
  left
  rw [List.length_map]
  exact decide_eq_false (by omega)
theorem isW_bad {k : List Str} (h : k.all sgn = false) : isW (wd k) = false := by
  rw [show wd k = .tup (k.map D.str) from rfl, isW_all, Bool.and_eq_false_iff]
  right
  rw [List.all_map]
  exact h
/-! ### texts near to signs -/
theorem sgn_odd {x : Str} {c : Nat} (h : c ∈ TL.tl x) (n : ¬ (97 ≤ c ∧ c ≤ 122)) : sgn x = false := Bool.eq_false_iff.mpr fun e => n (alph_lo ((sgn_iff.mp e).2.2 c h))
theorem sgn_longer {x : Str} (h : 8 < x.length) : sgn x = false := Bool.eq_false_iff.mpr fun e => by have := (sgn_iff.mp e).2.1; omega
theorem sgn_empty : sgn "" = false := by decide +kernel
theorem sgn_head {x : Str} (h : sgn x = true) : ∃ c l, TL.tl x = c :: l ∧ 97 ≤ c ∧ c ≤ 122 := by
  obtain ⟨h1, _, h3⟩ := sgn_iff.mp h
  cases e : x.cps.toList with
  | nil => rw [strlen, e] at h1; simp at h1
  | cons c l => exact ⟨c, l, e, alph_lo (h3 c (by rw [e]; exact List.mem_cons_self ..))⟩
theorem up_one : ∀ c ∈ alph.cps.toList, Unicode.upperOf c = [c - 32] := by
  have e : alph.cps.toList.all (fun c => decide (Unicode.upperOf c = [c - 32])) = true := by decide +kernel
  exact fun c hc => of_decide_eq_true (List.all_eq_true.mp e c hc)
theorem tl_up {x : Str} (h : sgn x = true) : TL.tl (Txt.upper x) = (TL.tl x).map (· - 32) := by
  have g := (sgn_iff.mp h).2.2
  have key : ∀ a : Array Nat, (∀ c ∈ a.toList, c ∈ alph.cps.toList) → ((a.mapIdx fun _ c => (Unicode.upperOf c).toArray).flatten).toList = a.toList.map (· - 32) := fun a ha => by
    have e1 : (a.mapIdx fun _ c => (Unicode.upperOf c).toArray) = a.map fun c => #[c - 32] := by
      apply Array.ext
      · simp
      · intro i h1 h2
        simp only [Array.getElem_mapIdx, Array.getElem_map]
        rw [up_one _ (ha _ (by simp))]
    rw [e1]
    simp [Array.toList_flatten, Function.comp_def]
    induction a.toList with
    | nil => rfl
    | cons c l ih => simp [ih]
  exact key x.cps g
theorem up_bad {x : Str} (h : sgn x = true) : sgn (Txt.upper x) = false := by
  obtain ⟨c, l, e, h1, h2⟩ := sgn_head h
  refine sgn_odd (c := c - 32) (by rw [tl_up h, e]; exact List.mem_cons_self ..) (by omega)
theorem up_len {x : Str} (h : sgn x = true) : (Txt.upper x).length = x.length := by
  show (TL.tl (Txt.upper x)).length = (TL.tl x).length
  rw [tl_up h, List.length_map]
theorem up_mem {x : Str} (h : sgn x = true) {c : Nat} (hc : c ∈ TL.tl (Txt.upper x)) : 65 ≤ c ∧ c ≤ 90 := by
  rw [tl_up h] at hc
  obtain ⟨b, hb, rfl⟩ := List.mem_map.mp hc
  have := alph_lo ((sgn_iff.mp h).2.2 b hb)
  omega
/-- x[:1] * 9 -/
def nine (x : Str) : Str := ⟨(List.replicate 9 (L2.cutS x none (some 1)).cps.toList).flatten.toArray⟩
theorem tl_nine {x : Str} (h : sgn x = true) : ∃ c, 97 ≤ c ∧ c ≤ 122 ∧ TL.tl (nine x) = List.replicate 9 c := by
  obtain ⟨c, l, e, h1, h2⟩ := sgn_head h
  refine ⟨c, h1, h2, ?_⟩
  have e1 : (L2.cutS x none (some 1)).cps.toList = [c] := by
    unfold L2.cutS
    show ((x.cps.toList.drop (HT.sIx x.length 0 none)).take (HT.sIx x.length x.length (some 1) - HT.sIx x.length 0 none)) = [c]
    have hl : x.length = (TL.tl x).length := rfl
    have e2 : x.cps.toList = c :: l := e
    rw [HT.sIx_none, List.drop_zero, e2]
    have := HT.sIx_nat x.length x.length 1
    rw [Nat.min_eq_left (by rw [hl, e, List.length_cons]; omega)] at this
    rw [show HT.sIx x.length x.length (some 1) = 1 from this]
    rfl
  show ((List.replicate 9 (L2.cutS x none (some 1)).cps.toList).flatten) = _
  rw [e1]
  rfl
theorem nine_len {x : Str} (h : sgn x = true) : (nine x).length = 9 := by
  obtain ⟨c, _, _, e⟩ := tl_nine h
  show (TL.tl (nine x)).length = 9
  rw [e, List.length_replicate]
/-! ### read again -/
def rdOk : D → Bool
  | .str x => decide (x = "-") || isW (wd (Txt.split x "."))
  | _ => false
/-- data that read_word may be asked of -/
def Lt : D → Prop
  | .str x => x.length ≤ 900 ∧ ∀ p ∈ Txt.split x ".", p.length ≤ 1000
  | d => (tyD d).isSome = true
theorem split_parts {parts : List Str} (hne : parts ≠ []) (hp : ∀ p ∈ parts, 46 ∉ TL.tl p) : Txt.split (Txt.join "." parts) "." = parts :=
  TL.split_join (y := ".") (s := 46) (S := []) (by decide +kernel) (by decide +kernel) hne hp
theorem bad_text {x : Str} (parts : List Str) (e : x = Txt.join "." parts) (hne : parts ≠ []) (hp : ∀ p ∈ parts, 46 ∉ TL.tl p) (hl : x.length ≤ 900) (hl2 : ∀ p ∈ parts, p.length ≤ 1000) (bad : isW (wd parts) = false) (nx : x ≠ "-") : Lt (.str x) ∧ rdOk (.str x) = false := by
  subst e
  refine ⟨⟨hl, ?_⟩, ?_⟩
  · rw [split_parts hne hp]
    exact hl2
  · show (decide (Txt.join "." parts = "-") || isW (wd (Txt.split (Txt.join "." parts) "."))) = false
    rw [split_parts hne hp, bad, decide_eq_false nx]
    rfl
theorem good_text {k : List Str} (h : gw k) : Lt (.str (txtW k)) ∧ rdOk (.str (txtW k)) = true := by
  have hl := txt_len h
  unfold txtW at hl ⊢
  by_cases hk : k = []
  · rw [if_pos hk]
    refine ⟨⟨by decide +kernel, ?_⟩, by decide +kernel⟩
    have e : Txt.split "-" "." = (["-"] : List Str) := by decide +kernel
    rw [e]
    intro p hp
    rw [List.mem_singleton.mp hp]
    decide +kernel
  · rw [if_neg hk] at hl ⊢
    refine ⟨⟨by omega, ?_⟩, ?_⟩
    · rw [split_word h hk]
      exact fun p hp => by have := (sgn_iff.mp (h.2 p hp)).2.1; omega
    · show (_ || isW (wd (Txt.split (Txt.join "." k) "."))) = true
      rw [split_word h hk, gw_isW h, Bool.or_true]
end PD

set_option Elab.async false
set_option linter.all false
set_option maxRecDepth 100000
set_option maxHeartbeats 4000000
/-! KZ: a def that tells how a lambda ends, called; dict displays by data; new lists as values; the things near to words. -/
namespace PD
open PySem PySem.Spec PyProof.Rows L2
open LamX in
theorem pe_tellD {X : Cx} {T : List (Addr × Str)} {TT : (XK → Hp → VK → Prop) → Hp → VK → Prop} {x a : Str} {st st0 : Stmt} {g c P f0 : Addr} {fdg fd0 : FuncData} {Ng ps0 : List Str} {x0 : Str} (k : Nat)
    {params : Arguments} {body : Expr} {scope : Scope} {t : XK → TE} {p lpos pos : Pos} (Dg : Df X.K X.mg x st [a] g fdg) (Sg : FnScope Ng [a] (defScope st)) (hNg : Ng[0]? = some a) (hva : Vis (defScope st) a)
    (hG : ∀ cdv, GivesTo X Ng x (defScope st) g cdv (defBody st) a (X.env.qual ++ "<lambda>") TT) (hg : Gl X x) (DL : DfL X.K X.mg X.base T x0 st0 ps0 f0 fd0 c P) (code : X.env.code = .ref c) (hq : X.env.qual = x0 ++ ".<locals>.") (hr : Room (k + 2) X.A)
    (L : LamS X.env.scope scope) (nodef : defaultsOf params X.env = ([], [])) (bind : ∀ (q : Str) (cl : List (Str × Addr)) (pm cv ctv : Value), bindArgs (PySem.W.kla_fn "<lambda>" q params body scope cl pm cv ctv) ⟨[], []⟩ = pure [])
    (run : ∀ (A : Around) (outer : List Env) (s : Shared) (H : Hp) (E : XK) (f c' : Addr), Room k (A.deeper (lamEnv X scope s.heap.objs.size f c')) → PE (lamCx X A outer s H E scope f c') body (t E))
    (hdb : (x == ("__debug__" : Str)) = false := by decide) (hd : (a == ("__debug__" : Str)) = false := by decide) (hcd : (a == ("__classdict__" : Str)) = false := by decide) :
    PE X (.Call (.Name x p) [.Lambda params body scope lpos] [] pos) (tLamZ P (x0 ++ ".<locals>." ++ "<lambda>") T TT t) := by
  rw [← hq]
  obtain ⟨oc, od, kV, doc, pm, an, cdv, ct, osl, e, lk, hc⟩ := Dg.F.ex
  have hb := Dg.b
  rw [e] at lk hb
  exact pe_tell lk hc Dg.F.kp hb Sg hNg hva (hG cdv) hg Dg.m DL.tb code (by rw [hq]; exact DL.mem) (by rw [hq]; exact DL.one) hr L nodef bind run hdb hd hcd
/-- a() as a statement, in the try of a def that tells -/
theorem pss_deed {X : Cx} {f c' : Addr} {q a : Str} {tl : XK → Hp → VK → Prop} {p1 p2 p3 : Pos} {W : WX} {pn : List (Addr × Obj)} {xe : Value → Shared → Prop} {n : Nat} (hn : n = X.N.length)
    (act : ∀ (W : WX) (E : XK) (p1 p2 : Pos), Takes (X.tr pn xe) W → (∀ cls d σ' H', E cls d H' → W cls d σ' H') → PE (X.tr pn xe) (.Call (.Name a p1) [] [] p2) (fun σZ HZ Q => σZ[0]? = some (some (.ref f)) ∧ HZ c' = some (LamX.CodeO c' q) ∧ tl E HZ Q))
    (tk : Takes (X.tr pn xe) W) (hs : swapsWith (.Call (.Name a p1) [] [] p2) none p3.line (X.tr pn xe).env = pure false := by rfl) : PSs (X.tr pn xe) [.Expr (.Call (.Name a p1) [] [] p2) p3] (tDeed n f c' q tl W) := by
  refine ⟨fun pins s σ H D I ⟨Ech, hW, h1, h2, h3⟩ => ?_⟩
  subst hn
  exact (pss_one (ps_expr (act _ Ech p1 p2 (takes_len tk) fun cls d σ' H' e hl => hW cls d σ' H' e hl) hs)).run pins s σ H D I ⟨h1, h2, h3⟩
section
variable {z : Zp} {P : D → Prop} {K : PySem.W.Frag} {ρ : List (Option D)} {te tk tv : TE} {tr : TA}
/-- a new list as a value -/
theorem e_ofNew {PL : List D → Prop} (h : E1N z te ρ PL) (i : ∀ ds, PL ds → P (.lst ds)) : E1 z te ρ P := fun hs σ H p s Q w =>
  h hs σ H p s Q fun a vs H' ds e p' n ha ra q => by
    obtain ⟨n1, n2⟩ := p.off n
    exact w _ H' _ e p' (.lst (by rw [hid_ne n1 n2]; exact ha) (RA.mono (hid_less fun b hb => .inl hb) _ _ ra)) (i ds q)
theorem e_disp1E (h : E1 z tk ρ fun d => ∃ k, d = .str k ∧ E1 z tv ρ fun e => P (.dct [(.inr k, e)])) : E1 z (tDisp [(tk, tv)]) ρ P := fun hs σ H p s Q w => fun a n => by
  obtain ⟨n1, n2⟩ := p.off n
  have e0 : ExZ z H (upd H a (.dK [])) := ExZ.new n
  have p0 : Ok z (fun b => hs b ∨ b = a) (upd H a (.dK [])) := ⟨(p.new n).pot, fun b hb => by
    rcases hb with hb | rfl
    · exact (p.new n (o := .dK [])).tr b hb
    · exact ⟨n1, _, upd_same, fun _ h => by cases h⟩⟩
  have s0 : SR z (hid z (fun b => hs b ∨ b = a) (upd H a (.dK []))) σ ρ := s.mono fun b o hb => by
    obtain ⟨m1, m2, hb⟩ := hid_some hb
    have na : b ≠ a := ne_of_none hb n
    rw [hid_ne m1 (by rintro (q | q); exact m2 q; exact na q), upd_ne na]
    exact hb
  refine h _ σ _ p0 s0 _ fun x H1 d e1 p1 rx ⟨k, ed, h1⟩ => ?_
  subst ed
  cases rx
  refine h1 _ σ _ p1 (s0.mono (exz_hid e1)) _ fun y H2 e e2 p2 ry q => ?_
  have at2 : H2 a = some (.dK []) := e2 a _ n1 (e1 a _ n1 upd_same)
  refine ⟨at2, [(.inr k, y)], rfl, by simp, ?_⟩
  have eu : upd H2 a (.dK (mergeK [] [((.inr k : Key), y)])) = upd H2 a (.dK [((.inr k : Key), y)]) := rfl
  rw [eu]
  have ex : ExZ z H (upd H2 a (.dK [((.inr k : Key), y)])) := fun b o nb hb => by
    have na : b ≠ a := ne_of_none hb n
    rw [upd_ne na]
    exact e2 b o nb (e1 b o nb (by rw [upd_ne na]; exact hb))
  have p3 : Ok z hs (upd H2 a (.dK [((.inr k : Key), y)])) := p.next ex ⟨fun b hb => by
    obtain ⟨i, j, hij, r⟩ := p2.pot.two b hb
    refine ⟨i, j, ?_, r⟩
    rw [upd_ne (fun e => n1 (.inl (by rw [← e]; exact hb)))]
    exact hij, fun t ht => by
      obtain ⟨ps, g1, g2, g3⟩ := p2.pot.tabs t ht
      refine ⟨ps, by rw [upd_ne (fun e => n1 (.inr ⟨t.2, by rw [← e]; exact ht⟩))]; exact g1, g2, fun pos cv hc => ?_⟩
      obtain ⟨c, q1, q2⟩ := g3 pos cv hc
      exact ⟨c, q1, by rw [upd_ne (by rintro rfl; rw [at2] at q2; cases q2)]; exact q2⟩, fun b ps hb => by
      by_cases e : b = a
      · rw [e, upd_same] at hb
        cases hb
      · rw [upd_ne e] at hb
        exact p2.pot.only b ps hb⟩
  refine w _ _ _ ex p3 (.dct (by rw [hid_ne n1 n2]; exact upd_same) (.cons (R.mono (fun b o hb => ?_) _ _ ry) .nil)) q
  obtain ⟨m1, m2, hb⟩ := hid_some hb
  have na : b ≠ a := fun e => m2 (.inr e)
  rw [hid_ne m1 (fun q => m2 (.inl q)), upd_ne na]
  exact hb
theorem e_dispT0 (q : P .dT) : E1 z (tDispT1 (tTup tNil) (tC (.int 1))) ρ P := fun hs σ H p s Q w => fun a n => ⟨by rw [sizeLine_eq]; decide, fun b nb => by
  have nab : b ≠ a := fun e => by rw [e, upd_same] at nb; cases nb
  refine ⟨b, [], rfl, upd_same, by rw [upd_ne (Ne.symm nab)]; exact upd_same, ?_⟩
  rw [upd_ne nab] at nb
  have p1 := p.new n (o := .dT [])
  obtain ⟨n1, n2⟩ := p.off n
  have ex : Ex H (upd (upd (upd H a (.dT [])) b (.tup [])) a (.dT [([], .int 1)])) := fun c o hc => by
    rw [upd_ne (ne_of_none hc n), upd_ne (ne_of_none hc nb), upd_ne (ne_of_none hc n)]
    exact hc
  refine w _ _ .dT (.of ex) (p.next (.of ex) (p.pot.keep ex fun c ps hc => ?_)) (.dT (by rw [hid_ne n1 n2]; exact upd_same)) q
  by_cases e1 : c = a
  · rw [e1, upd_same] at hc
    cases hc
  · rw [upd_ne e1] at hc
    by_cases e2 : c = b
    · rw [e2, upd_same] at hc
      cases hc
    · rw [upd_ne e2, upd_ne e1] at hc
      exact hc⟩
end
/-! ### things near to words -/
structure Nr (d : D) : Prop where
  w : Lw d
  n : isW d = false
  s : Sm 400 3 d
def AllP (p : D → Prop) : List D → Prop
  | [] => True
  | d :: ds => p d ∧ AllP p ds
theorem AllP.mem {p : D → Prop} : ∀ {ds : List D}, AllP p ds → ∀ d ∈ ds, p d
  | [], _, _, h => by cases h
  | d :: ds, g, e, h => (List.mem_cons.mp h).elim (fun q => by rw [q]; exact g.1) fun q => AllP.mem g.2 e q
theorem ch_lit {x : Str} (h : x.cps.toList.all (fun c => decide (c < 1114112)) = true) : chOk x := fun c hc => by
  have := of_decide_eq_true (List.all_eq_true.mp h c hc)
  omega
theorem ch_up {x : Str} (h : sgn x = true) : chOk (Txt.upper x) := fun c hc => by have := up_mem h hc; omega
theorem ch_nine {x : Str} (h : sgn x = true) : chOk (nine x) := fun c hc => by
  obtain ⟨b, _, h2, e⟩ := tl_nine h
  have hc : c ∈ TL.tl (nine x) := hc
  rw [e] at hc
  have := (List.mem_replicate.mp hc).2
  omega
theorem nr_str {x : Str} (h : chOk x) (hl : x.length ≤ 30) : Nr (.str x) := ⟨show x.length ≤ 1000 by omega, rfl, (sm_str h).le⟩
theorem nr_tup {ds : List D} (h1 : AllP Lf ds) (h2 : isW (.tup ds) = false) (h3 : AllP (Sm 94 2) ds) (hl : ds.length ≤ 4) : Nr (.tup ds) := ⟨h1.mem, h2, (sm_tup (k := 4) h3.mem hl).le⟩
theorem nr_lst {ds : List D} (h3 : AllP (Sm 94 2) ds) (hl : ds.length ≤ 4) : Nr (.lst ds) := ⟨rfl, rfl, (sm_lst (k := 4) h3.mem hl).le⟩
theorem e_str94 {x : Str} (h : chOk x) (hl : x.length ≤ 9) : Sm 94 2 (.str x) := (sm_str h).le
theorem lf_str {x : Str} (hl : x.length ≤ 9) : Lf (.str x) := show x.length ≤ 1000 by omega
end PD

set_option Elab.async false
set_option linter.all false
set_option maxRecDepth 100000
set_option maxHeartbeats 4000000
/-! PI1: instances of own classes by data: their making (__init__ may raise), attributes, methods, properties, own ==. -/
namespace PD
open PySem PySem.Spec PyProof.Rows L2
/-! ### what __init__ promises of the instance at its first parameter -/
def ExA (z : Zp) (a : Addr) (H H' : Hp) : Prop := ∀ b o, ¬ z.at b → b ≠ a → H b = some o → H' b = some o
def spInit (C : Addr) (n : Nat) (Pre : List D → Prop) (Post : List D → List (Str × D) → Prop) (PX : List D → Addr → List (Str × D) → Prop) : Sp := fun vs H Q E => ∃ z hs ds a dx us, vs = .ref a :: us ∧ ds.length = n ∧ Pre ds ∧ Ok z hs H ∧ ¬ z.at a ∧ ¬ hs a ∧ H a = some (.ins C dx []) ∧ RA z (hid z (fun b => hs b ∨ b = a) H) us ds ∧
  (∀ H' dx' xs fs, ExA z a H H' → Ok z hs H' → H' a = some (.ins C dx' xs) → RF z (hid z (fun b => hs b ∨ b = a) H') xs fs → Post ds fs → Q .non H') ∧
  (∀ C' fs dd H' xs, ExA z a H H' → Ok z hs H' → H' dd = some (.xd xs) → RF z (hid z hs H') xs fs → PX ds C' fs → E (.ref C') (some dd) H')
theorem spInit_len {C : Addr} {n : Nat} {Pre : List D → Prop} {Post : List D → List (Str × D) → Prop} {PX : List D → Addr → List (Str × D) → Prop} (vs : List V) (H : Hp) (Q : VK) (E : XK) (h : spInit C n Pre Post PX vs H Q E) : vs.length = n + 1 := by
  obtain ⟨z, hs, ds, a, dx, us, rfl, hl, _, _, _, _, _, r, _⟩ := h
  rw [List.length_cons, r.length, hl]
section
variable {P : Program} {w : World} {K : PySem.W.Frag} {mg : Str → Option Value} {base : Heap} {k : Nat} {f C : Addr} {x qual n0 : Str} {st : Stmt} {fd : FuncData} {N ps : List Str} {n : Nat} {Pre : List D → Prop} {Post : List D → List (Str × D) → Prop} {PX : List D → Addr → List (Str × D) → Prop}
theorem okI (F : Fun K x qual st f fd) (S : FnScope (n0 :: N) ps (defScope st)) (hn : n + 1 = ps.length)
    (h : ∀ (cdv : Value) (A : Around) (outer : List Env) (s : Shared) (H : Hp) (E : XK), Room k (A.deeper (envOfC qual (defScope st) s.heap.objs.size f cdv)) →
      ∃ t, PSs (cxOf (L2.CX P w) P w K mg base (n0 :: N) qual (defScope st) f cdv A outer s H E) (defBody st) t ∧ ∀ z a ds, ds.length = n → Pre ds → X1 z t (.ob a C [] :: startS N ds) { nx := fun ρ => ∃ fs, ρ[0]? = some (.ob a C fs) ∧ Post ds fs, rt := fun _ => False, px := PX ds, E := E }) :
    FnOk P w K mg base (L2.CX P w) (k + 1) f fd ps (spInit C n Pre Post PX) := by
  refine F.okX S (fun vs H Q E q => by rw [spInit_len vs H Q E q, hn]) (fun cdv A outer s H vs Q E hr q => ?_)
  obtain ⟨t, h1, h2⟩ := h cdv A outer s H E hr
  refine ⟨t, h1, ?_⟩
  obtain ⟨z, hs, ds, a, dx, us, rfl, hl, hp, p, na, nh, ha, r, w, xd⟩ := q
  have e1 : ∀ b, (hs b ∨ b = a) ↔ hsO hs [a] b := fun b => by simp [hsO]
  have st : St1 z hs H (L2.start (n0 :: N) (.ref a :: us)) (.ob a C [] :: startS N ds) [a] := {
    ok := p, nd := by simp, off := fun b hb => by
      rw [List.mem_singleton.mp hb]
      exact ⟨na, nh⟩
    ss := by
      have e : L2.start (n0 :: N) (.ref a :: us) = some (.ref a) :: L2.start N us := by
        unfold L2.start
        simp
      rw [e]
      exact .ob ha .nil (ss_start (RA.mono (hid_less fun b hb => (e1 b).mpr hb) _ _ r)) }
  have ex : ∀ {H' : Hp}, (∀ b o, ¬ z.at b → b ∉ [a] → H b = some o → H' b = some o) → ExA z a H H' := fun k b o n nb hb => k b o n (by simpa using nb) hb
  refine h2 z a ds hl hp hs _ H [a] st _ ⟨fun σ' H' ρ' O' e' s' ⟨fs, hf, q⟩ => ?_, fun v H' d k p' r' q => q.elim, fun _ _ _ _ _ _ q => q.elim, fun _ _ _ _ _ _ q => q.elim,
    fun C' fs dd H' vs k p g r q => xd C' fs dd H' vs (ex k) p g r q⟩
  obtain ⟨dx', xs, _, hO, ho, hr'⟩ := s'.ss.owni hf
  refine w H' dx' xs fs (ex e'.keep) s'.ok ho (RF.mono (hid_less fun b hb => ?_) _ _ hr') q
  rcases hb with hb | hb
  · exact .inl hb
  · exact .inr (by rw [hb]; exact hO)
end
section
variable {z : Zp} {hs : Addr → Prop} {ρ : List (Option D)} {r : List Sl} {P : D → Prop} {PX' : Addr → List (Str × D) → Prop} {te ta tb : TE} {tr tk : TA} {n : Nat} {Pre : List D → Prop} {Post : List D → List (Str × D) → Prop} {PX : List D → Addr → List (Str × D) → Prop} {C : Addr} {K : PySem.W.Frag} {out : Out}
/-- self.f = e in the making -/
theorem RF.put {G : Hp} {f : Str} {v : V} {d : D} (rv : R z G v d) : ∀ {fs : List (Str × D)} {xs : List (Str × V)}, RF z G xs fs → ∃ gs, RF z G (putF f v xs) gs ∧ gs.length ≤ fs.length + 1 ∧ (fs.lookup f = none → gs = fs ++ [(f, d)])
  | [], _, .nil => ⟨[(f, d)], .cons rv .nil, by simp, fun _ => rfl⟩
  | (g, e) :: fs, _, .cons (v := u) (vs := xs) r1 r2 => by
    by_cases q : (f == g) = true
    · refine ⟨(g, d) :: fs, ?_, by simp, fun h => ?_⟩
      · have q' : g = f := (beq_iff_eq.mp q).symm
        subst q'
        show RF z G (putF g v ((g, u) :: xs)) _
        unfold putF
        simp
        exact .cons rv r2
      · rw [List.lookup_cons, q] at h
        cases h
    · have q' : g ≠ f := fun e => q (by rw [e]; exact beq_self_eq_true f)
      obtain ⟨gs, h1, h2, h3⟩ := RF.put rv r2
      refine ⟨(g, e) :: gs, ?_, by simp; omega, fun h => ?_⟩
      · show RF z G (putF f v ((g, u) :: xs)) _
        unfold putF
        simp [q']
        exact .cons r1 h1
      · rw [List.lookup_cons, show (f == g) = false by simpa using q] at h
        rw [h3 h]
        rfl
theorem RF.len {G : Hp} : ∀ {fs : List (Str × D)} {xs : List (Str × V)}, RF z G xs fs → xs.length = fs.length
  | [], _, .nil => rfl
  | _ :: _, _, .cons _ h => by simp [RF.len h]
theorem RF.lookup_none {G : Hp} {f : Str} : ∀ {fs : List (Str × D)} {xs : List (Str × V)}, RF z G xs fs → fs.lookup f = none → xs.lookup f = none
  | [], _, .nil, _ => rfl
  | (g, e) :: fs, _, .cons _ r, h => by
    rw [List.lookup_cons] at h ⊢
    cases q : f == g with
    | true => rw [q] at h; cases h
    | false =>
      rw [q] at h
      exact RF.lookup_none r h
theorem x_fld {i : Nat} {a : Addr} {f : Str} {fs : List (Str × D)} (he : r[i]? = some (.ob a C fs)) (cl : Cls K C) (na : NoAttr K C f) (hz : fs.length < 1000) (hf : fs.lookup f = none) (h : E1 z te (r.map Sl.dat) fun d => out.nx (r.set i (.ob a C (fs ++ [(f, d)])))) : X1 z (sFld K (tVar i) te f) r out := fun hs σ H O s F w =>
  s.ev h fun v H1 d e1 s1 rv q => by
    obtain ⟨dx, xs, a1, b1, c1, d1⟩ := s1.ss.owni he
    obtain ⟨gs, g1, _, g2⟩ := RF.put (f := f) rv d1
    rw [g2 hf] at g1
    obtain ⟨n1, s2⟩ := s1.changeI he c1 b1 g1
    exact ⟨.ref a, a1, a, C, dx, xs, rfl, c1, cl, na, by rw [d1.len]; exact hz, w.nx _ _ _ O ((Nxt.of e1).trans n1) s2 q⟩
/-- C(..) -/
theorem make_w {H1 : Hp} {Q : VK} {E : XK} {us : List V} {ds : List D} (p1 : Ok z hs H1) (rs : RA z (hid z hs H1) us ds) (hn : ds.length = n) (hp : Pre ds) (w : Wd z hs H1 P Q) (x : Xd z hs H1 PX' E) (hq : ∀ fs, Post ds fs → P (.obj C fs)) (hx : ∀ C' fs, PX ds C' fs → PX' C' fs)
    (a dx : Addr) (ha : H1 a = none) (hd : H1 dx = none) (hne : dx ≠ a) : spInit C n Pre Post PX (.ref a :: us) (upd (upd H1 dx (.own a)) a (.ins C dx [])) (fun v H3 => v = .non ∧ Q (.ref a) H3) E := by
  obtain ⟨n1, n2⟩ := p1.off ha
  have p2 := p1.new hd (o := .own a)
  have ha2 : upd H1 dx (.own a) a = none := by rw [upd_ne (fun e => hne e.symm)]; exact ha
  have p3 := p2.new ha2 (o := .ins C dx [])
  have old : ∀ b o, H1 b = some o → upd (upd H1 dx (.own a)) a (.ins C dx []) b = some o := fun b o hb => by
    rw [upd_ne (ne_of_none hb ha), upd_ne (ne_of_none hb hd)]
    exact hb
  have ex : ∀ {H' : Hp}, ExA z a (upd (upd H1 dx (.own a)) a (.ins C dx [])) H' → ExZ z H1 H' := fun e b o nb hb => e b o nb (ne_of_none hb ha) (old b o hb)
  refine ⟨z, hs, ds, a, dx, us, rfl, hn, hp, p3, n1, n2, upd_same, RA.mono (fun b o hb => ?_) _ _ rs, fun H' dx' xs fs e p' h' rf q => ⟨rfl, ?_⟩, fun C' fs dd H' xs e p' g rf q => x C' fs dd H' xs (ex e) p' g rf (hx C' fs q)⟩
  · obtain ⟨m1, m2, hb⟩ := hid_some hb
    have nb : b ≠ a := ne_of_none hb ha
    rw [hid_ne m1 (by rintro (q | q); exact m2 q; exact nb q)]
    exact old b o hb
  · refine w _ H' _ (ex e) p' (.obj (by rw [hid_ne n1 n2]; exact h') (RF.mono (hid_less fun b hb => .inl hb) _ _ rf)) (hq fs q)
theorem ex_make (h : EA z tr ρ fun ds => ds.length = n ∧ Pre ds ∧ (∀ fs, Post ds fs → P (.obj C fs)) ∧ ∀ C' fs, PX ds C' fs → PX' C' fs) : E1X z (fun E => tMake C (spInit C n Pre Post PX) [] E tr) ρ P PX' := fun hs σ H p s E Q w x =>
  h hs σ H p s _ fun vs H1 ds e1 p1 rs ⟨hn, hp, hq, hx⟩ => fun a dx ha hd hne => by
    rw [List.append_nil]
    exact make_w p1 rs hn hp (w.back e1) (x.back e1) hq hx a dx ha hd hne
/-- .. by keywords alone -/
theorem ex_makeK {m : Nat} {gV : List V → List V → List V} {gD : List D → List D} (hg : ∀ {H : Hp} {a : Addr} {zs : List V} {es : List D}, RA z H zs es → ∃ us, gV [.ref a] zs = .ref a :: us ∧ RA z H us (gD es)) (h : EA z tk ρ fun es => es.length = m ∧ (gD es).length = n ∧ Pre (gD es) ∧ (∀ fs, Post (gD es) fs → P (.obj C fs)) ∧ ∀ C' fs, PX (gD es) C' fs → PX' C' fs) : E1X z (fun E => tMakeK C 0 m (spInit C n Pre Post PX) gV E tNil tk) ρ P PX' := fun hs σ H p s E Q w x =>
  h hs σ H p s _ fun zs H1 es e1 p1 rz ⟨hm, hn, hp, hq, hx⟩ => ⟨rfl, by rw [rz.length]; exact hm, fun a dx ha hd hne => by
    obtain ⟨us, eu, ru⟩ := hg (a := a) rz
    rw [eu]
    exact make_w p1 ru hn hp (w.back e1) (x.back e1) hq hx a dx ha hd hne⟩
/-- an expression that may raise where it does not -/
theorem e_ofX {t : XK → TE} {E : XK} (h : E1X z t ρ P fun _ _ => False) : E1 z (t E) ρ P := fun hs σ H p s Q w => h hs σ H p s E Q w fun _ _ _ _ _ _ _ _ _ q => q.elim
/-- e.f -/
theorem e_fld {f : Str} (h : E1 z ta ρ fun d => ∃ C fs v, d = .obj C fs ∧ Cls K C ∧ NoAttr K C f ∧ fs.lookup f = some v ∧ P v) : E1 z (tFld K ta f) ρ P := fun hs σ H p s Q w =>
  h hs σ H p s _ fun x H1 d e1 p1 rx ⟨C, fs, v, ed, c, na, l, q⟩ => by
    subst ed
    cases rx with
    | obj h1 h2 =>
      obtain ⟨u, hu, ru⟩ := h2.lookup l
      exact ⟨_, C, _, _, u, rfl, hid_sub _ _ h1, c, na, hu, (w.back e1).here p1 ru q⟩
/-- e.m(..) -/
theorem ex_meth {m : Str} {N : Nat} {Prm : List D → Prop} {Psm : List D → D → Prop} {PXm : List D → Addr → List (Str × D) → Prop} (h : E1 z ta ρ fun d => ∃ fs, d = .obj C fs ∧ fs.lookup m = none ∧ EA z tr ρ fun ds => (d :: ds).length = N ∧ Prm (d :: ds) ∧ (∀ e, Psm (d :: ds) e → P e) ∧ ∀ C' fs, PXm (d :: ds) C' fs → PX' C' fs) :
    E1X z (fun E => tMeth C m (spDX N Prm Psm PXm) [] E ta tr) ρ P PX' := fun hs σ H p s E Q w x =>
  h hs σ H p s _ fun v H1 d e1 p1 rv ⟨fs, ed, hl, h1⟩ => by
    subst ed
    have rv' := rv
    cases rv with
    | obj g1 g2 =>
      refine ⟨_, _, _, rfl, hid_sub _ _ g1, g2.lookup_none hl, h1 hs σ H1 p1 (s.mono (exz_hid e1)) _ fun vs H2 ds e2 p2 rs ⟨hn, hp, hq, hx⟩ => ?_⟩
      rw [List.append_nil]
      exact ⟨z, hs, _, hn, hp, p2, .cons (R.mono (exz_hid e2) _ _ rv') rs, (w.back (e1.trans e2)).imp hq, (x.back (e1.trans e2)).imp hx⟩
theorem e_meth {m : Str} {N : Nat} {Prm : List D → Prop} {Psm : List D → D → Prop} {E : XK} (h : E1 z ta ρ fun d => ∃ fs, d = .obj C fs ∧ fs.lookup m = none ∧ EA z tr ρ fun ds => (d :: ds).length = N ∧ Prm (d :: ds) ∧ (∀ e, Psm (d :: ds) e → P e)) :
    E1 z (tMeth C m (spD N Prm Psm) [] E ta tr) ρ P := fun hs σ H p s Q w =>
  h hs σ H p s _ fun v H1 d e1 p1 rv ⟨fs, ed, hl, h1⟩ => by
    subst ed
    have rv' := rv
    cases rv with
    | obj g1 g2 =>
      refine ⟨_, _, _, rfl, hid_sub _ _ g1, g2.lookup_none hl, h1 hs σ H1 p1 (s.mono (exz_hid e1)) _ fun vs H2 ds e2 p2 rs ⟨hn, hp, hq⟩ => ?_⟩
      rw [List.append_nil]
      exact ⟨z, hs, _, hn, hp, p2, .cons (R.mono (exz_hid e2) _ _ rv') rs, (w.back (e1.trans e2)).imp hq⟩
/-- e.f, a property -/
theorem e_prop {Prm : List D → Prop} {Psm : List D → D → Prop} {E : XK} (h : E1 z ta ρ fun d => ∃ fs, d = .obj C fs ∧ Prm [d] ∧ ∀ e, Psm [d] e → P e) : E1 z (tProp C (spD 1 Prm Psm) [] E ta) ρ P := fun hs σ H p s Q w =>
  h hs σ H p s _ fun v H1 d e1 p1 rv ⟨fs, ed, hp, hq⟩ => by
    subst ed
    have rv' := rv
    cases rv with
    | obj g1 g2 => exact ⟨_, _, _, rfl, hid_sub _ _ g1, z, hs, [_], rfl, hp, p1, .cons rv' .nil, (w.back e1).imp hq⟩
end
/-! ### o.m(k = v, ..) -/
def tMethK (C : Addr) (m : Str) (mk : Nat) (sp : Sp) (gV : List V → List V → List V) (E : XK) (ta : TE) (tk : TA) : TE := fun σ H Q => ta σ H fun x H1 => ∃ a dx fs, x = .ref a ∧ H1 a = some (.ins C dx fs) ∧ fs.lookup m = none ∧
  tk σ H1 fun zs H2 => zs.length = mk ∧ sp (gV [x] zs) H2 Q E
section
variable {X : Cx} {CX : CXT} {k : Nat} {f C : Addr} {fd : FuncData} {ps ks : List Str} {sp : Sp} {E : XK} {m : Str} {pos apos : Pos} {o : Expr} {kws : List Keyword} {ta : TE} {tk : TA} {g : List Value → List Value → List Value} {gV : List V → List V → List V}
theorem pe_methK {pl : Sem Bool} (he : PE X o ta) (c : Cls X.K C) (hm : Meth X.K C m f) (F : FnOk X.prog X.w X.K X.mg X.base CX k f fd ps sp) (hr : Room k X.A) (hb : KBn X.K fd ps 1 ks g gV) (hx : Passes CX X E) (hkw : PK X kws tk)
    (hall : (backToKw pos (keywordEach kws X.env)).all (·.1.isSome) = true := by rfl) (hks : (backToKw pos (keywordEach kws X.env)).filterMap (·.1) = ks := by rfl)
    (hpl : ((backTo pos (starEach [] X.env)).any (·.1) || (backToKw pos (keywordEach kws X.env)).any (·.1.isNone)) = false := by rfl)
    (ht : eval (.Call (.Attribute o m apos) [] kws pos) X.env = (do
      let ov ← eval o X.env
      standAt apos.atName
      let (f, first) ← holding [ov] (getMethod ov m pl)
      callWith pos f first (backTo pos (starEach [] X.env)) (backToKw pos (keywordEach kws X.env))) := by rfl) :
    PE X (.Call (.Attribute o m apos) [] kws pos) (tMethK C m ks.length sp gV E ta tk) := by
  refine ⟨fun pins s σ H Q I h => ?_⟩
  refine PySem.W.methodCall_KW (pl := pl) (thn (he.run pins s σ H _ I h) fun u s1 ⟨x, H1, I1, rx, a, dx, fs, ex, ea, l, q⟩ => ?_) ht
  subst ex
  obtain rfl : u = Value.ref a := rx
  refine getmeth_ok I1 ea c hm l ?_
  refine PySem.W.callWith_KW0 (first := [.ref a]) (h₀ := X.base) I1.ok.mod.kin hm.kp hall (thn (hkw.run pos pins s1 σ H1 _ I1 q) fun ws s2 ⟨zs, H2, I2, rz, l2, q2⟩ => ⟨I2.kIn, ?_⟩) hpl
  rw [hks]
  exact run_fnN (us := [.ref a]) (vs := [.ref a]) F hr hb hx I2 (.cons rfl .nil) rz rfl l2 q2
end
section
variable {z : Zp} {ρ : List (Option D)} {P : D → Prop} {PX' : Addr → List (Str × D) → Prop} {ta : TE} {tk : TA} {C : Addr}
theorem ex_methK {m : Str} {mk N : Nat} {gV : List V → List V → List V} {gD : D → List D → List D} (hg : ∀ {H : Hp} {x : V} {d : D} {zs : List V} {es : List D}, R z H x d → RA z H zs es → RA z H (gV [x] zs) (gD d es)) {Prm : List D → Prop} {Psm : List D → D → Prop} {PXm : List D → Addr → List (Str × D) → Prop}
    (h : E1 z ta ρ fun d => ∃ fs, d = .obj C fs ∧ fs.lookup m = none ∧ EA z tk ρ fun ds => ds.length = mk ∧ (gD d ds).length = N ∧ Prm (gD d ds) ∧ (∀ e, Psm (gD d ds) e → P e) ∧ ∀ C' fs, PXm (gD d ds) C' fs → PX' C' fs) :
    E1X z (fun E => tMethK C m mk (spDX N Prm Psm PXm) gV E ta tk) ρ P PX' := fun hs σ H p s E Q w x =>
  h hs σ H p s _ fun v H1 d e1 p1 rv ⟨fs, ed, hl, h1⟩ => by
    subst ed
    have rv' := rv
    cases rv with
    | obj g1 g2 =>
      refine ⟨_, _, _, rfl, hid_sub _ _ g1, g2.lookup_none hl, h1 hs σ H1 p1 (s.mono (exz_hid e1)) _ fun vs H2 ds e2 p2 rs ⟨hm, hn, hp, hq, hx⟩ => ⟨by rw [rs.length]; exact hm, ?_⟩⟩
      exact ⟨z, hs, _, hn, hp, p2, hg (R.mono (exz_hid e2) _ _ rv') rs, (w.back (e1.trans e2)).imp hq, (x.back (e1.trans e2)).imp hx⟩
end
/-! ### keywords behind self, in the parameters' order or the other way round -/
def kS {α : Type} (us ws : List α) : List α := us ++ ws
def kSR {α : Type} (us ws : List α) : List α := us ++ ws.reverse
end PD

set_option Elab.async false
set_option linter.all false
set_option maxRecDepth 100000
set_option maxHeartbeats 4000000
/-! PI2: sorted(texts, key=str); extend; lists repeated; a list and a value at once; is None. -/
namespace WS
open PySem PySem.Spec PySem.W PyProof.Rows L2
def IsS (v : Value) (x : Str) : Prop := ∃ t, v = .str x t
theorem strs_each : ∀ {xs : List Str} {us : List Value}, Vals (xs.map V.str) us → EachIs IsS us xs
  | [], _, .nil => .nil
  | _ :: _, _, .cons r t => .cons r (strs_each t)
theorem each_strs : ∀ {xs : List Str} {us : List Value}, EachIs IsS us xs → Vals (xs.map V.str) us
  | _, _, .nil => .nil
  | _, _, .cons r t => .cons r (each_strs t)
/-- sorted(e, key=str), e a list of texts: some sequence of them -/
def tSortStr (K : PySem.W.Frag) (te : TE) : TE := fun σ H Q => te σ H fun x H1 => ∃ (l : Addr) (xs : List Str), [x] = [V.ref l] ∧ SqL K H1 l (xs.map V.str) ∧ xs.length ≤ 1000000 ∧ ∀ (p : Addr) (ys : List Str), ys.Perm xs → H1 p = none → Q (.ref p) (upd H1 p (.lst (ys.map V.str)))
theorem pe_sortStr {X : Cx} {e : Expr} {te : TE} {p1 p2 q1 q2 : Pos} (hu : X.A.units + 64 < cLine) (hg : Gl X "sorted") (hm : X.mg "sorted" = none) (hg2 : Gl X "str") (hm2 : X.mg "str" = none) (he : PE X e te)
    (na : starEach [e] X.env = (false, eval e X.env) :: starEach [] X.env := by rfl) (h1 : backTo q1 (starEach [e] X.env) = (false, eval e X.env) :: backTo q1 (starEach [] X.env) := by rfl) (hpl : (backTo q1 (starEach [e] X.env)).any (·.1) = false := by rfl) : PE X (.Call (.Name "sorted" p1) [e] [⟨some "key", .Name "str" p2, q2⟩] q1) (tSortStr X.K te) := by
  refine ⟨fun pins s σ H Q I h => ?_⟩
  refine wpAny_Call_Name_kw (ld_blt I hg hm boot_sorted ?_)
  refine PyProof.Rows.callWith_kw (thn ((pa_cons he pa_nil na).run q1 pins s σ H (fun vs H1 => ∃ (l : Addr) (xs : List Str), vs = [V.ref l] ∧ SqL X.K H1 l (xs.map V.str) ∧ xs.length ≤ 1000000 ∧ ∀ (p : Addr) (ys : List Str), ys.Perm xs → H1 p = none → Q (.ref p) (upd H1 p (.lst (ys.map V.str)))) I h) fun us s1 ⟨vs, H1, I1, r1, l, xs, ev, hq, few, h1⟩ => ?_) h1 hpl rfl rfl
  subst ev
  obtain rfl : us = [.ref l] := by
    cases r1 with
    | cons r1 r2 => cases r1; cases r2; rfl
  show wpAny _ _ (evalAll [(do let v ← eval (.Name "str" p2) X.env; standAt q1; pure v)]) _ _ s1
  refine wpAny_evalAll_cons (wpAny_bind (ld_blt I1 hg2 hm2 PyProof.Rows.boot_str (wpAny_bind (wpAny_standAt (wpAny_pure (wpAny_evalAll_nil ?_))))))
  obtain ⟨its, rv, pl, hz⟩ := I1.list hq
  refine sorted_key_data (f := .type "str") (b := false) (fun x : Str => .str x) pl.isList (by simpa using strs_each rv) (AllAlike.of fun _ _ => by simp [alike]) (Sortable.others fun _ => ⟨by simp, by simp⟩) (by rw [sizeLine_eq]; omega) (fun p _ => by simp only [PyData.depth]; omega) (ksk_s1 _ _) (fun x => by unfold argsOk; kernel_rfl) (fun x => rfl)
    (fun v x hv hx h tk kp => ?_) fun out c h' tk kp fr ho hl ei => ?_
  · obtain ⟨t, rfl⟩ := hv
    exact PySem.P.str_of_str ⟨h, _, rfl, fun _ _ e => e, .str _ _⟩
  · have pm := List.mergeSort_perm xs (dataLe false fun x : Str => PyData.str x)
    have hlen : ((xs.mergeSort (dataLe false fun x : Str => PyData.str x)).map V.str).length ≤ sizeLine := by
      rw [List.length_map, pm.length_eq, sizeLine_eq]
      omega
    have big : s1.heap.objs.size ≤ s1.heap.objs.size + 1 := Nat.le_succ _
    exact ⟨.ref _, upd H1 (s1.heap.objs.size + 1) (.lst ((xs.mergeSort (dataLe false fun x : Str => PyData.str x)).map V.str)), I1.laid (t' := tk) kp big ⟨hlen, _, c, each_strs ei, ho⟩, rfl, h1 _ _ pm (I1.hok.fresh big)⟩
end WS
namespace PD
open PySem PySem.Spec PyProof.Rows L2
section
variable {z : Zp} {hs : Addr → Prop} {ρ : List (Option D)} {r : List Sl} {P : D → Prop} {te ta tb : TE} {tr tk : TA} {K : PySem.W.Frag} {out : Out}
theorem e_sortStr (h : E1 z te ρ fun d => ∃ xs : List Str, d = .lst (xs.map D.str) ∧ xs.length ≤ 1000000 ∧ ∀ ys : List Str, ys.Perm xs → P (.lst (ys.map D.str))) : E1 z (WS.tSortStr K te) ρ P := fun hs σ H p s Q w =>
  h hs σ H p s _ fun x H1 d e1 p1 rx ⟨xs, ed, hl, q⟩ => by
    subst ed
    cases rx with
    | @lst a vs _ g1 g2 =>
      have ev := ra_strs _ _ g2
      subst ev
      exact ⟨a, xs, rfl, .inl (.inl (hid_sub _ _ g1)), hl, fun p ys pm n => new_w (w.back e1) p1 n (fun H' e1 e2 => .lst e1 (strs_ra ys)) (q ys pm)⟩
/-- own.extend(e) -/
theorem x_extend {i : Nat} {ds : List D} (he : r[i]? = some (.ow ds)) (h : E1 z te (r.map Sl.dat) fun d => ∃ es, d = .lst es ∧ ds.length + es.length ≤ sizeLine ∧ out.nx (r.set i (.ow (ds ++ es)))) : X1 z (tDrop (tBM K "list" rExtend (tVar i) (tCons te tNil))) r out := fun hs σ H O s F w => by
  obtain ⟨p, vs, a, b, c, d⟩ := s.ss.own he
  refine ⟨.ref p, a, .inl ⟨rfl, vs, .inl (.inl c)⟩, ?_⟩
  refine s.ev h fun v H1 dd e1 s1 rr ⟨es, ed, hz, q⟩ => ?_
  subst ed
  obtain ⟨p', vs', a', b', c', d'⟩ := s1.ss.own he
  have : p' = p := by
    rw [a] at a'
    have := Option.some.inj (Option.some.inj a')
    cases this
    rfl
  subst this
  cases rr with
  | @lst b2 us _ g1 g2 =>
    refine ⟨p', b2, vs', us, rfl, rfl, c', hid_sub _ _ g1, by rw [d'.length, g2.length]; exact hz, ?_⟩
    obtain ⟨n, s2⟩ := s1.change he a b (d'.append g2)
    exact w.nx _ _ _ O ((Nxt.of e1).trans n) s2 q
theorem ra_reps {H : Hp} {vs : List V} {ds : List D} (h : RA z H vs ds) : ∀ n : Nat, RA z H (List.replicate n vs).flatten (List.replicate n ds).flatten
  | 0 => .nil
  | n + 1 => by
    rw [List.replicate_succ, List.flatten_cons, List.replicate_succ, List.flatten_cons]
    exact h.append (ra_reps h n)
theorem o_rep {d e : D} (h : ∃ (a : List D) (k : Nat), d = .lst a ∧ e = .int k ∧ k ≤ 100000 ∧ a.length * k ≤ sizeLine ∧ P (.lst (List.replicate k a).flatten)) : O2 z rRep d e P := fun hs x y H p rx ry Q w => by
  obtain ⟨a, k, rfl, rfl, hl, hz, q⟩ := h
  cases ry
  cases rx with
  | lst h1 h2 =>
    refine ⟨_, _, _, rfl, rfl, hid_sub _ _ h1, by omega, by omega, ?_, fun l n => ?_⟩
    · rw [Int.toNat_natCast, h2.length]
      exact hz
    · rw [Int.toNat_natCast]
      exact new_w w p n (fun H' e1 e2 => .lst e1 (ra_reps (RA.mono e2 _ _ h2) k)) q
def rNotN : R2 := fun x y H Q => y = .non ∧ Q (.bl (!decide (x = .non))) H
theorem o_notN {d : D} {i : Int} (h : (d = .non ∧ P (.bl false)) ∨ (d = .int i ∧ P (.bl true))) : O2 z rNotN d .non P := fun hs x y H p rx ry Q w => by
  cases ry
  rcases h with ⟨rfl, q⟩ | ⟨rfl, q⟩
  · cases rx
    exact ⟨rfl, w.here p (.bl _) q⟩
  · cases rx
    exact ⟨rfl, w.here p (.bl _) q⟩
/-- i, j = [..], e -/
theorem x_tupNV {i j : Nat} (hi : i < r.length) (h : E1N z te (r.map Sl.dat) fun ds => E1 z ta (r.map Sl.dat) fun d => out.nx ((r.set i (.ow ds)).set j (.va d))) : X1 z (tAsg (tTup (tCons te (tCons ta tNil))) (gTup K 2 (gCons (gName i) (gCons (gName j) gNil)))) r out := fun hs σ H O s F w =>
  h (hsO hs O) σ H s.okO s.ss.dat _ fun p vs H1 ds e1 p1 n hp rs q => by
    have N := New1.make s e1 p1 n hp
    refine q (hsO hs (p :: O)) σ H1 N.ok N.dat _ fun v H2 d e2 p2 rv qq => ?_
    have N2 := N.next e2 p2
    refine ⟨sz rfl, fun t nt => ?_⟩
    have hp2 : H2 p = some (.lst vs) := e2 p _ N.n1 hp
    have npt : p ≠ t := fun e => by rw [e, nt] at hp2; cases hp2
    refine ⟨t, _, rfl, .inl (.inl upd_same), rfl, .ref p, _, rfl, v, _, rfl, rfl, ?_⟩
    generalize eH : upd H2 t (.tup [.ref p, v]) = H3
    have e3 : ExZ z H2 H3 := by rw [← eH]; exact ExZ.new nt
    have p3 : Ok z (hsO hs (p :: O)) H3 := by rw [← eH]; exact p2.new nt
    have N3 := N2.next e3 p3
    have hp3 : H3 p = some (.lst vs) := e3 p _ N.n1 hp2
    obtain ⟨O1, sub, s3⟩ := N3.st.setOw N.n1 N.n2 N.n3 hp3 (RA.mono (hidP.trans (exz_hid (e2.trans e3))) _ _ rs) N3.ss i hi
    have sub1 : ∀ a, hsO hs O1 a → hsO hs (p :: O) a := fun a ha => ha.imp id fun ha => by
      rcases sub a ha with rfl | h
      · exact List.mem_cons_self ..
      · exact List.mem_cons_of_mem _ h
    obtain ⟨O2, sub2, s4⟩ := s3.setVa (R.mono ((exz_hid e3).trans (hid_less sub1)) _ _ rv) j
    have n0 : H p = none := n
    refine w.nx _ _ _ O2 ⟨fun a o m _ h => e3 a o m (e2 a o m (e1 a o m h)), fun a ha => ?_⟩ s4 qq
    rcases sub a (sub2 a ha) with rfl | h
    · exact .inr ⟨N.n1, n0⟩
    · exact .inl h
end
/-! ### repr of a small int or None, whatever is under way -/
def rReprIN : List V → Hp → VK → Prop := fun xs H Q => (∃ i : Int, xs = [.int i] ∧ i.natAbs.log2 < 1920 ∧ Q (.str (toString i)) H) ∨ (xs = [.non] ∧ Q (.str "None") H)
theorem call_reprIN {X : Cx} : CallR X (.builtin "repr") rReprIN := by
  intro pins s σ H xs us Q I r h
  rcases h with ⟨i, rfl, hz, q⟩ | ⟨rfl, q⟩
  · obtain ⟨u, rfl, t, rfl⟩ := vals1 r
    exact PySem.P.repr_of_int hz ⟨.str _, H, I.tok _, ⟨_, rfl⟩, q⟩
  · obtain ⟨u, rfl, t⟩ := vals1 r
    cases t
    exact PySem.P.repr_of_none ⟨.str _, H, I.tok _, ⟨_, rfl⟩, q⟩
end PD

set_option Elab.async false
set_option linter.all false
set_option maxRecDepth 100000
set_option maxHeartbeats 4000000
/-! PI3: isinstance(e, C) for an own class C; == by an own __eq__. -/
namespace PD
open PySem PySem.Spec PyProof.Rows L2
/-- what the text says of a class whose instances are asked of -/
structure ObC (K : PySem.W.Frag) (C : Addr) : Prop where
  cl : Cls K C
  ha : PySem.W.findIn K (.ref C) "__class__" = some (some (.builtin "object.__class__"))
  hn : PySem.W.specialIn K (.builtin "object.__class__") "__get__" = some (some (.builtin "getset_descriptor.__get__"))
  ht : PySem.W.takesIn K (.builtin "object.__class__") = some true
  hm : PySem.W.mroIn K C (.type "object") = some true
/-- a value that stands for d has the type t -/
def TyIs (K : PySem.W.Frag) (d : D) (t : Value) : Prop := ∀ (z : Zp) (hs : Addr → Prop) (H : Hp) (v : V), R z (hid z hs H) v d → TyX K H v t
theorem tyIs_of {K : PySem.W.Frag} {d : D} {T : String} (h : tyD d = some T) : TyIs K d (.type T) := fun z hs H v r => tyD_ok h r
theorem tyIs_obj {K : PySem.W.Frag} {C : Addr} {fs : List (Str × D)} (c : ObC K C) : TyIs K (.obj C fs) (.ref C) := fun z hs H v r => by
  cases r with
  | obj h1 h2 => exact .base (.ins (hid_sub _ _ h1) c.cl c.ha c.hn c.ht c.hm)
section
variable {z : Zp} {P : D → Prop} {K : PySem.W.Frag}
theorem o_isOwn {d : D} {C : Addr} {t : Value} {b : Bool} (h : TyIs K d t) (hk : PySem.W.kitOne K t (.ref C) = some b) (q : P (.bl b)) : OC z (rIsi K) [d, .raw (.ref C)] P := fun hs xs H p rs Q w => by
  cases rs with
  | cons r rs =>
    cases rs with
    | cons r2 rs =>
      cases rs
      cases r2
      exact ⟨_, _, _, _, b, rfl, .own C, h z hs H _ r, hk, w.here p (.bl _) q⟩
end
/-- x == y, x an instance of the class at C whose == keeps sp -/
def rEqO (K : PySem.W.Frag) (C : Addr) (sp : Sp) (E : XK) : R2 := fun x y H Q => ∃ (a dx : Addr) (fs : List (Str × V)) (t : Value), x = .ref a ∧ H a = some (.ins C dx fs) ∧ TyX K H y t ∧ PySem.W.notFirst K C t = true ∧ sp [x, y] H (fun v H' => ∃ b, v = .bl b ∧ Q (.bl b) H') E
theorem op_eqO {X : Cx} {CX : CXT} {k : Nat} {C f : Addr} {fd : FuncData} {ps : List Str} {sp : Sp} {E : XK} (F : FnOk X.prog X.w X.K X.mg X.base CX k f fd ps sp) (hr : Room k X.A) (hb : Binds X.K fd ps []) (hs : PySem.W.findIn X.K (.ref C) "__eq__" = some (some (.ref f))) (hf : PySem.W.isFn X.K (.ref f) = true) (hx : Passes CX X E) :
    OpR X (compareOp .Eq) (rEqO X.K C sp E) := by
  intro pins s σ H x y v u Q I rx ry h
  obtain ⟨a, dx, fs, t, rfl, ea, ty, hn, hsp⟩ := h
  cases rx
  obtain ⟨mA, J, _⟩ := ins_get I.hok ea
  obtain ⟨od, J, _⟩ := J.look
  obtain ⟨P, Z, p, _⟩ := kit_of I ry ty
  obtain ⟨m, hF⟩ := I.fr
  refine PySem.W.cmp_K (op := .Eq) (tb := t) hr.units0 hF I.ok.mod.kin J (Z.ty _ _ I.kIn p) hn hs hf ?_
  refine wpAny_mono (run_fn (us := [.ref a, u]) (vs := [.ref a, y]) F hr hb .nil hx I (.cons rfl (.cons ry .nil)) hsp) (fun r s' q => ?_) fun _ _ q => q
  obtain ⟨w, H', I', rw', b, ew, q⟩ := q
  subst ew
  cases rw'
  exact ⟨.bl b, H', I', rfl, q⟩
section
variable {z : Zp} {P : D → Prop} {K : PySem.W.Frag} {C : Addr} {Pre : List D → Prop} {Post : List D → D → Prop} {E : XK}
theorem o_eqO {d e : D} {t : Value} {fs : List (Str × D)} (hd : d = .obj C fs) (h : TyIs K e t) (hn : PySem.W.notFirst K C t = true) (hp : Pre [d, e]) (hq : ∀ r, Post [d, e] r → ∃ b, r = .bl b ∧ P (.bl b)) : O2 z (rEqO K C (spD 2 Pre Post) E) d e P := fun hs x y H p rx ry Q w => by
  subst hd
  have rx' := rx
  cases rx with
  | obj g1 g2 =>
    refine ⟨_, _, _, t, rfl, hid_sub _ _ g1, h z hs H _ ry, hn, z, hs, [_, e], rfl, hp, p, .cons rx' (.cons ry .nil), fun v H' r e' p' rr pr => ?_⟩
    obtain ⟨b, rfl, q⟩ := hq r pr
    cases rr
    exact ⟨b, rfl, w _ H' _ e' p' (.bl b) q⟩
end
end PD

set_option Elab.async false
set_option linter.all false
set_option maxRecDepth 100000
set_option maxHeartbeats 4000000
/-! PI4: own classes as the text has them; calls that do not raise here; promises with the tables in defs without lambdas. -/
namespace PD
open PySem PySem.Spec PyProof.Rows L2
/-- a method -/
structure Mf (K : PySem.W.Frag) (C : Addr) (m qual : Str) (st : Stmt) (ps : List Str) (f : Addr) (fd : FuncData) : Prop where
  F : Fun K m qual st f fd
  M : Meth K C m f
  b : Binds K fd ps []
/-- an own class whose instances are made; fs: their attributes -/
structure Oc (K : PySem.W.Frag) (mg : Str → Option Value) (nm : Str) (fs : List Str) (C : Addr) : Prop where
  g : mg nm = some (.ref C)
  o : ObC K C
  makes : PySem.W.makesIn K C = true
  kp : PySem.W.keepIn K (.ref C) = true
  nf : ∀ f ∈ fs, NoAttr K C f
  me : PySem.W.kitOne K (.ref C) (.ref C) = some true
theorem Oc.mkK {K : PySem.W.Frag} {mg : Str → Option Value} {nm qual : Str} {fs ps : List Str} {C f : Addr} {st : Stmt} {fd : FuncData} (c : Oc K mg nm fs C) (d : Mf K C "__init__" qual st ps f fd) : Mk K C f := ⟨c.makes, d.M.at_, d.M.fn, c.kp⟩
theorem notFirst_same {K : PySem.W.Frag} {C : Addr} : PySem.W.notFirst K C (.ref C) = true := by simp [PySem.W.notFirst]
/-- nothing is let out -/
def EN : XK := fun _ _ _ => False
theorem passN {P : Program} {w : World} {X : Cx} : Passes (L2.CX P w) X EN := fun _ _ _ _ _ _ _ h => by
  obtain ⟨_, _, _, _, _, _, _, _, _, _, _, _, h⟩ := h
  exact h.elim
section
variable {P : Program} {w : World} {K : PySem.W.Frag} {mg : Str → Option Value} {base : Heap} {k : Nat} {f c : Addr} {x qual : Str} {st : Stmt} {fd : FuncData} {N ps : List Str} {n : Nat} {Pre : List D → Prop} {Post : List D → D → Prop} {T : List (Addr × Str)}
theorem okT (F : Fun K x qual st f fd) (S : FnScope N ps (defScope st)) (hn : n = ps.length)
    (h : ∀ (cdv : Value) (A : Around) (outer : List Env) (s : Shared) (H : Hp) (E : XK), A.guards = some [] → Room k (A.deeper (envOfC qual (defScope st) s.heap.objs.size f cdv)) →
      ∃ t, PSs (cxOf CX0 P w K mg base N qual (defScope st) f cdv A outer s H E).nox (defBody st) t ∧ ∀ z ds, z.tabs = T → ds.length = n → Pre ds → X1 z t (startS N ds) { nx := fun _ => Post ds .non, rt := Post ds }) :
    FnG P w K mg base CX0 (k + 1) f fd ps (spDT T n Pre Post) := by
  refine okG F S (fun vs H Q E q => by rw [spDT_len vs H Q E q, hn]) (fun cdv A outer s H vs Q E hg hr q => ?_)
  obtain ⟨t, h1, h2⟩ := h cdv A outer s H E hg hr
  obtain ⟨z, hs, ds, hz, hl, hp, p, r, w⟩ := q
  refine ⟨t, h1, ?_⟩
  have e0 : ∀ a, hsO hs [] a → hs a := fun a h => h.elim id (fun h => by cases h)
  have st : St1 z hs H (L2.start N vs) (startS N ds) [] := { ok := p, nd := List.nodup_nil, off := (fun _ h => by cases h), ss := ss_start (RA.mono (hid_less e0) _ _ r) }
  exact h2 z ds hz hl hp hs _ H [] st _ ⟨fun σ' H' ρ' O' e' s' q => w _ H' _ (fun a o n k => e'.keep a o n (fun h => by cases h) k) s'.ok .non q, fun v H' d k p' r' q => w v H' d (fun a o n e => k a o n (fun h => by cases h) e) p' r' q, fun _ _ _ _ _ _ q => q.elim, fun _ _ _ _ _ _ q => q.elim, fun _ _ _ _ _ _ _ _ _ q => q.elim⟩
end
/-! ### keywords behind self -/
theorem kS_rel {vs : List V} {us : List Value} {zs : List V} {ws : List Value} (r : Vals vs us) (q : Vals zs ws) : Vals (kS vs zs) (kS us ws) := r.append q
theorem kSR_rel {vs : List V} {us : List Value} {zs : List V} {ws : List Value} (r : Vals vs us) (q : Vals zs ws) : Vals (kSR vs zs) (kSR us ws) := r.append (vals_rev q)
/-- own classes' keyword calls by data -/
theorem kS_make {z : Zp} {H : Hp} {a : Addr} {zs : List V} {es : List D} (r : RA z H zs es) : ∃ us, kS [V.ref a] zs = .ref a :: us ∧ RA z H us es := ⟨zs, rfl, r⟩
theorem kSR_make {z : Zp} {H : Hp} {a : Addr} {zs : List V} {es : List D} (r : RA z H zs es) : ∃ us, kSR [V.ref a] zs = .ref a :: us ∧ RA z H us es.reverse := ⟨zs.reverse, rfl, ra_rev r⟩
theorem kS_meth {z : Zp} {H : Hp} {x : V} {d : D} {zs : List V} {es : List D} (r : R z H x d) (q : RA z H zs es) : RA z H (kS [x] zs) (d :: es) := .cons r q
/-! ### how a deed ends, told by a list -/
section
variable {z : Zp} {K : PySem.W.Frag}
/-- what a def that tells asks of the lambda's reading, and what it answers: d0 if it ends well, else as tell says -/
def TTg (z : Zp) (K : PySem.W.Frag) (d0 : D) (tell : Addr → List (Str × D) → D → Prop) : (XK → Hp → VK → Prop) → Hp → VK → Prop := fun tl H Q => ∃ (hs : Addr → Prop) (Pn : Prop) (PX : Addr → List (Str × D) → Prop), Ok z hs H ∧
  (∀ H1 E Q', ExZ z H H1 → Ok z hs H1 → (∀ v H', ExZ z H1 H' → Ok z hs H' → Pn → Q' v H') → Xd z hs H1 PX E → tl E H1 Q') ∧
  (Pn → Wd z hs H (fun d => d = d0) Q) ∧ ∀ C fs, PX C fs → ∃ d, tell C fs d ∧ Wd z hs H (fun e => e = d) Q
def TTgT (T : List (Addr × Str)) (K : PySem.W.Frag) (d0 : D) (tell : Addr → List (Str × D) → D → Prop) : (XK → Hp → VK → Prop) → Hp → VK → Prop := fun tl H Q => ∃ z : Zp, z.tabs = T ∧ TTg z K d0 tell tl H Q
theorem e_toldG {z : Zp} {d0 : D} {tell : Addr → List (Str × D) → D → Prop} {P : Addr} {q : Str} {T : List (Addr × Str)} {t : XK → TE} {ρ : List (Option D)} {Pd : D → Prop} {Pn : D → Prop} {PX : Addr → List (Str × D) → Prop} (hz : z.tabs = T) (h : E1X z t ρ Pn PX) (hn : ∀ d, Pn d → Pd d0) (hx : ∀ C fs, PX C fs → ∃ d, tell C fs d ∧ Pd d) :
    E1 z (tLamZ P q T (TTgT T K d0 tell) t) ρ Pd := fun hs σ H p s Q w => by
  subst hz
  refine ⟨p.pot.tabs, fun H1 m T1 => ⟨z, rfl, ?_⟩⟩
  have e1 : ExZ z H H1 := fun a o n e => m.ext a o e fun ps z' => by
    subst z'
    exact n (.inr (p.pot.only a ps e))
  have p1 : Ok z hs H1 := p.next e1 ⟨fun a ha => by
    obtain ⟨i, j, e, r⟩ := p.pot.two a ha
    exact ⟨i, j, m.ext _ _ e (fun ps z' => by cases z'), r⟩, T1, fun a ps e => by
      obtain ⟨qs, e'⟩ := m.tbl e
      exact p.pot.only a qs e'⟩
  refine ⟨hs, ∃ d, Pn d, PX, p1, fun H2 E Q' e2 p2 wn x => h hs σ H2 p2 (s.mono (exz_hid (e1.trans e2))) E Q' (fun v H' d e3 p3 _ hd => wn v H' e3 p3 ⟨d, hd⟩) x, fun ⟨d, hd⟩ => (w.back e1).imp fun d' e => by rw [e]; exact hn d hd, fun C fs x => ?_⟩
  obtain ⟨d, tl, q⟩ := hx C fs x
  exact ⟨d, tl, (w.back e1).imp fun d' e => by rw [e]; exact q⟩
/-- the suites, asked of an exception of the class at C with the fields fs, give the slot j a list that stands for d -/
def Suites (z : Zp) (K : PySem.W.Frag) (j n : Nat) (l : List (Value × Nat × (Addr → Value → Option Addr → TS))) (C : Addr) (fs : List (Str × D)) (d : D) : Prop := ∀ (dd : Addr) (vs : List (Str × V)) (H G : Hp) (σ : L2.St) (D0 : Ends) (W0 : WX), H dd = some (.xd vs) → RF z G vs fs → σ.length = n →
  (∀ p us ds σ', d = .lst ds → H p = none → RA z G us ds → σ'[j]? = some (some (.ref p)) → D0.nx σ' (upd H p (.lst us))) → wAsM K W0 D0 l (.ref C) (some dd) σ H
theorem told_runG {z : Zp} {K : PySem.W.Frag} {n : Nat} {l : List (Value × Nat × (Addr → Value → Option Addr → TS))} {W0 : WX} {ds0 : List D} {vs0 : List V} {te0 : TE} {tell : Addr → List (Str × D) → D → Prop} (h0 : ∀ (σ : L2.St) (H : Hp) (Q : VK), (∀ P, H P = none → Q (.ref P) (upd H P (.lst vs0))) → te0 σ H Q) (r0 : ∀ G, RA z G vs0 ds0)
    (ok : ∀ C fs d, tell C fs d → Suites z K 1 (n + 2) l C fs d) {tl : XK → Hp → VK → Prop} {H : Hp} {Q : VK} {f c' : Addr} {q : Str} (hc : H c' = some (LamX.CodeO c' q)) (h : TTg z K (.lst ds0) tell tl H Q) {nx : L2.St → Hp → Prop} :
    tSeq (tAsg te0 (gName 1)) (tSeq (fun D σ H => tDeed (n + 2) f c' q tl (wAsM K W0 D l) D σ H) (tRet (tVar 1))) { nx := nx, rt := Q } (some (.ref f) :: List.replicate (n + 1) none) H := by
  obtain ⟨hs, Pn, PX, p, run, n1, n2⟩ := h
  refine h0 _ _ _ fun P n => ?_
  obtain ⟨m1, m2⟩ := p.off n
  have e1 : ExZ z H (upd H P (.lst vs0)) := ExZ.new n
  have p1 := p.new n (o := .lst vs0)
  refine ⟨fun cls d H' => ∃ C fs dd vs, cls = .ref C ∧ d = some dd ∧ PX C fs ∧ ExZ z (upd H P (.lst vs0)) H' ∧ Ok z hs H' ∧ H' dd = some (.xd vs) ∧ RF z (hid z hs H') vs fs, ?_, ?_, ?_, run _ _ _ e1 p1 (fun v H' e2 p2 hn => ?_) fun C fs dd H' vs e2 p2 g r x => ⟨C, fs, dd, vs, rfl, rfl, x, e2, p2, g, r⟩⟩
  · rintro cls d σ' H' ⟨C, fs, dd, vs, rfl, rfl, x, e2, p2, g, r⟩ hl
    obtain ⟨d, t, w⟩ := n2 C fs x
    refine ok C fs d t dd vs H' _ σ' _ _ g r hl fun P2 us ds σ2 ed n' ra hj => ?_
    subst ed
    refine ⟨.ref P2, hj, ?_⟩
    exact new_w ((w.back e1).back e2) p2 n' (fun H3 h1 h2 => .lst h1 (RA.mono h2 _ _ ra)) rfl
  · rfl
  · rw [upd_ne (ne_of_none hc n)]
    exact hc
  · refine ⟨.ref P, rfl, (((n1 hn).back e1).back e2).here p2 (.lst (a := P) ?_ (r0 _)) rfl⟩
    rw [hid_ne m1 m2]
    exact e2 P _ m1 upd_same
end
end PD

set_option Elab.async false
set_option linter.all false
set_option maxRecDepth 100000
set_option maxHeartbeats 4000000
/-! PI5: in, slices over lists and tuples alike; a dict with one tuple as key. -/
namespace PD
open PySem PySem.Spec PyProof.Rows L2
def rInA (K : PySem.W.Frag) : R2 := fun x y H Q => ∃ d ds, Dp K H x d ∧ (Dp K H y (.list ds) ∧ SeqAt.shaped (.list ds) = true ∨ Dp K H y (.tuple ds) ∧ SeqAt.shaped (.tuple ds) = true) ∧ SeqAt.shaped d = true ∧ Q (.bl (ds.any fun z => PyData.eqv z d)) H
def rNotInA (K : PySem.W.Frag) : R2 := fun x y H Q => ∃ d ds, Dp K H x d ∧ (Dp K H y (.list ds) ∧ SeqAt.shaped (.list ds) = true ∨ Dp K H y (.tuple ds) ∧ SeqAt.shaped (.tuple ds) = true) ∧ SeqAt.shaped d = true ∧ Q (.bl (!ds.any fun z => PyData.eqv z d)) H
section
variable {X : Cx}
theorem lay_tup {ds : List PyData} (h : SeqAt.shaped (.tuple ds) = true) : PyData.canLayAll0 ds = true := by
  have := SeqAt.canLay_of_shaped h
  simpa [PyData.canLay0] using this
theorem op_inA (hu : X.A.units + 65 < cLine) : OpR X (compareOp .In) (rInA X.K) := by
  intro pins s σ H x y v u Q I rx ry h
  obtain ⟨d, ds, hd, he, sd, q⟩ := h
  obtain ⟨as, r1⟩ := Dp.reads I d x v hd rx
  rcases he with ⟨he, se⟩ | ⟨he, se⟩
  · obtain ⟨bs, r2⟩ := Dp.reads I (.list ds) y u he ry
    exact SeqAt.in_list_reads r2 r1 (SeqAt.canLay_of_shaped se) (SeqAt.canLay_of_shaped sd) (room_in_shaped sd hu) ⟨.bl _, H, I, rfl, q⟩
  · obtain ⟨bs, r2⟩ := Dp.reads I (.tuple ds) y u he ry
    exact SeqAt.in_tuple_reads r2 r1 (lay_tup se) (SeqAt.canLay_of_shaped sd) (room_in_shaped sd hu) ⟨.bl _, H, I, rfl, q⟩
theorem op_notInA (hu : X.A.units + 65 < cLine) : OpR X (compareOp .NotIn) (rNotInA X.K) := by
  intro pins s σ H x y v u Q I rx ry h
  obtain ⟨d, ds, hd, he, sd, q⟩ := h
  obtain ⟨as, r1⟩ := Dp.reads I d x v hd rx
  rcases he with ⟨he, se⟩ | ⟨he, se⟩
  · obtain ⟨bs, r2⟩ := Dp.reads I (.list ds) y u he ry
    exact SeqAt.notIn_list_reads r2 r1 (SeqAt.canLay_of_shaped se) (SeqAt.canLay_of_shaped sd) (room_in_shaped sd hu) ⟨.bl _, H, I, rfl, q⟩
  · obtain ⟨bs, r2⟩ := Dp.reads I (.tuple ds) y u he ry
    exact SeqAt.notIn_tuple_reads r2 r1 (lay_tup se) (SeqAt.canLay_of_shaped sd) (room_in_shaped sd hu) ⟨.bl _, H, I, rfl, q⟩
end
theorem shaped_wdt {ws : List (List Str)} (h : okWs ws) : SeqAt.shaped (py (.tup (ws.map wd))) = true := by
  have hd := depth_wds ws
  simp only [py, pyA_wds]
  unfold SeqAt.shaped
  rw [Bool.and_eq_true]
  refine ⟨by simp only [PyData.canLay0, can_wds ws h], decide_eq_true ?_⟩
  have e : (PyData.tuple (ws.map fun k => PyData.tuple (k.map .str))).depth = PyData.depthAll (ws.map fun k => PyData.tuple (k.map .str)) + 1 := by simp only [PyData.depth]
  rw [e]
  omega
section
variable {z : Zp} {P : D → Prop} {K : PySem.W.Frag}
theorem dp_wds {hs : Addr → Prop} {H : Hp} {y : V} {e : D} {ws : List (List Str)} (he : e = .lst (ws.map wd) ∨ e = .tup (ws.map wd)) (hw : okWs ws) (ry : R z (hid z hs H) y e) :
    (Dp K H y (.list (ws.map fun k => PyData.tuple (k.map .str))) ∧ SeqAt.shaped (.list (ws.map fun k => PyData.tuple (k.map .str))) = true) ∨ (Dp K H y (.tuple (ws.map fun k => PyData.tuple (k.map .str))) ∧ SeqAt.shaped (.tuple (ws.map fun k => PyData.tuple (k.map .str))) = true) := by
  rcases he with rfl | rfl
  · have h1 := R.dp (K := K) _ y (by simp only [isPy, isPyA_wds]) (SeqAt.canLay_of_shaped (shaped_wds hw)) (R.mono hid_sub _ _ ry)
    have h2 := shaped_wds hw
    exact .inl ⟨by simpa only [py, pyA_wds] using h1, by simpa only [py, pyA_wds] using h2⟩
  · have h1 := R.dp (K := K) _ y (by simp only [isPy, isPyA_wds]) (SeqAt.canLay_of_shaped (shaped_wdt hw)) (R.mono hid_sub _ _ ry)
    have h2 := shaped_wdt hw
    exact .inr ⟨by simpa only [py, pyA_wds] using h1, by simpa only [py, pyA_wds] using h2⟩
theorem o_inWA {k : List Str} {ws : List (List Str)} {e : D} (he : e = .lst (ws.map wd) ∨ e = .tup (ws.map wd)) (hk : okW k) (hw : okWs ws) (q : P (.bl (decide (k ∈ ws)))) : O2 z (rInA K) (wd k) e P := fun hs x y H p rx ry Q w => by
  refine ⟨_, ws.map fun k => PyData.tuple (k.map .str), R.dp _ x (isPy_wd k) (SeqAt.canLay_of_shaped (shaped_wd hk)) (R.mono hid_sub _ _ rx), dp_wds he hw ry, shaped_wd hk, w.here p (.bl _) ?_⟩
  rw [py_wd, any_eqv]
  exact q
theorem o_notInWA {k : List Str} {ws : List (List Str)} {e : D} (he : e = .lst (ws.map wd) ∨ e = .tup (ws.map wd)) (hk : okW k) (hw : okWs ws) (q : P (.bl (!decide (k ∈ ws)))) : O2 z (rNotInA K) (wd k) e P := fun hs x y H p rx ry Q w => by
  refine ⟨_, ws.map fun k => PyData.tuple (k.map .str), R.dp _ x (isPy_wd k) (SeqAt.canLay_of_shaped (shaped_wd hk)) (R.mono hid_sub _ _ rx), dp_wds he hw ry, shaped_wd hk, w.here p (.bl _) ?_⟩
  rw [py_wd, any_eqv]
  exact q
/-- slices of a list or a tuple -/
def rSlLA (K : PySem.W.Frag) : V → Option Int → Option Int → Hp → VK → Prop := fun x lo hi H Q => rSlL K x lo hi H Q ∨ rSlA K x lo hi H Q
theorem sl_LA {X : Cx} : SlR X (rSlLA X.K) := SlR.or sl_list sl_tupA
theorem o_slLA {lo hi : Option Int} {d : D} {ds : List D} (h : (d = .lst ds ∧ P (.lst (cutD ds lo hi))) ∨ (d = .tup ds ∧ P (.tup (cutD ds lo hi)))) : O1 z (fun x => rSlLA K x lo hi) d P := fun hs x H p rx Q w => by
  rcases h with ⟨e, q⟩ | ⟨e, q⟩
  · exact .inl (o_slL ⟨ds, e, q⟩ hs x H p rx Q w)
  · exact .inr (o_slT ⟨ds, e, q⟩ hs x H p rx Q w)
theorem e_dispT1 {ρ : List (Option D)} {tk : TA} (h : EA z tk ρ fun ds => ∃ xs : List Str, ds = xs.map D.str ∧ xs.length ≤ 100 ∧ P .dT) : E1 z (tDispT1 (tTup tk) (tC (.int 1))) ρ P := fun hs σ H p s Q w => fun a n => by
  have p1 := p.new n (o := .dT [])
  obtain ⟨n1, n2⟩ := p.off n
  have e1 : ExZ z H (upd H a (.dT [])) := ExZ.new n
  have ok2 : Ok z (fun b => hs b ∨ b = a) (upd H a (.dT [])) := ⟨p1.pot, fun b hb => by
    rcases hb with hb | rfl
    · exact p1.tr b hb
    · exact ⟨n1, _, upd_same, fun _ h => by cases h⟩⟩
  refine h (fun b => hs b ∨ b = a) σ _ ok2 (s.mono fun b o hb => ?_) _ fun vs H1 ds e2 p2 rs ⟨xs, ed, hl, q⟩ => ?_
  · obtain ⟨m1, m2, hb⟩ := hid_some hb
    have na : b ≠ a := ne_of_none hb n
    rw [hid_ne m1 (by rintro (q | q); exact m2 q; exact na q), upd_ne na]
    exact hb
  subst ed
  have ev := ra_strs _ _ rs
  subst ev
  have at1 : H1 a = some (.dT []) := e2 a _ n1 upd_same
  refine ⟨by rw [List.length_map, sizeLine_eq]; omega, fun b nb => ?_⟩
  have nab : a ≠ b := ne_of_none at1 nb
  refine ⟨b, xs.map .inr, rfl, ?_, by rw [upd_ne nab]; exact at1, ?_⟩
  · rw [upd_same]
    refine congrArg some (congrArg HO.tup ?_)
    rw [List.map_map]
    rfl
  have ex : ExZ z H (upd (upd H1 b (.tup (xs.map V.str))) a (.dT [(xs.map .inr, .int 1)])) := fun c o nc hc => by
    have na : c ≠ a := ne_of_none hc n
    have h1 := e2 c o nc (e1 c o nc hc)
    rw [upd_ne na, upd_ne (ne_of_none h1 nb)]
    exact h1
  refine w _ _ .dT ex (p.next ex ⟨fun c hc => ?_, fun t ht => ?_, fun c ps hc => ?_⟩) (.dT (by rw [hid_ne n1 n2]; exact upd_same)) q
  · obtain ⟨i, j, hij, r⟩ := p2.pot.two c hc
    refine ⟨i, j, ?_, r⟩
    rw [upd_ne (fun e => n1 (.inl (by rw [← e]; exact hc))), upd_ne (ne_of_none hij nb)]
    exact hij
  · obtain ⟨ps, g1, g2, g3⟩ := p2.pot.tabs t ht
    refine ⟨ps, by rw [upd_ne (fun e => n1 (.inr ⟨t.2, by rw [← e]; exact ht⟩)), upd_ne (ne_of_none g1 nb)]; exact g1, g2, fun pos cv hc => ?_⟩
    obtain ⟨c, q1, q2⟩ := g3 pos cv hc
    exact ⟨c, q1, by rw [upd_ne (by rintro rfl; rw [at1] at q2; cases q2), upd_ne (ne_of_none q2 nb)]; exact q2⟩
  · by_cases e3 : c = a
    · rw [e3, upd_same] at hc
      cases hc
    · rw [upd_ne e3] at hc
      by_cases e4 : c = b
      · rw [e4, upd_same] at hc
        cases hc
      · rw [upd_ne e4] at hc
        exact p2.pot.only c ps hc
end
end PD

set_option Elab.async false
set_option linter.all false
set_option maxRecDepth 100000
set_option maxHeartbeats 4000000
/-! PI6: expressions that may raise, as statements; lists of different words that are not empty. -/
namespace PD
open PySem PySem.Spec PyProof.Rows L2
section
variable {z : Zp} {ρ : List Sl} {out : Out} {t : XK → TE}
theorem x_retE (h : E1X z t (ρ.map Sl.see) out.rt out.px) : X1 z (tRet (t out.E)) ρ out := fun hs σ H O s F w =>
  h hs σ H s.ok s.sr out.E _ (fun v H' d e p r q => w.rt v H' d (fun a o n _ k => e a o n k) p r q) (w.xd (ExZ.refl z H) fun _ _ q => q)
theorem x_dropE (h : E1X z t (ρ.map Sl.see) (fun _ => out.nx ρ) out.px) : X1 z (tDrop (t out.E)) ρ out := fun hs σ H O s F w =>
  h hs σ H s.ok s.sr out.E _ (fun v H' d e p r q => w.nx _ H' _ O (.of e) (s.next e p) q) (w.xd (ExZ.refl z H) fun _ _ q => q)
theorem x_asgE {i : Nat} (h : E1X z t (ρ.map Sl.dat) (fun d => out.nx (ρ.set i (.va d))) out.px) : X1 z (tAsg (t out.E) (gName i)) ρ out := fun hs σ H O s F w =>
  h (hsO hs O) σ H s.okO s.ss.dat out.E _ (fun v H' d e p r q => g_name q hs σ H' O (s.next e (okO_ok p)) v r _ (w.nx.back (.of e)))
    fun C fs dd H' vs e' p g r q => w.ex C fs dd H' vs (fun a o n _ h => e' a o n h) (okO_ok p) g (RF.mono (hid_less fun a h => .inl h) _ _ r) q
end
/-- the things in a list or tuple -/
def itemsD : D → List D
  | .lst xs => xs
  | .tup xs => xs
  | _ => []
def Sq (d : D) (xs : List D) : Prop := d = .lst xs ∨ d = .tup xs
theorem Sq.items {d : D} {xs : List D} (h : Sq d xs) : itemsD d = xs := by rcases h with rfl | rfl <;> rfl
theorem sq_of {d : D} (h : (isLstD d || isTupD d) = true) : Sq d (itemsD d) := by
  cases d <;> first | exact .inl rfl | exact .inr rfl | (simp [isLstD, isTupD] at h)
theorem Sq.is {d : D} {xs : List D} (h : Sq d xs) : (isLstD d || isTupD d) = true := by rcases h with rfl | rfl <;> rfl
theorem Sq.len {d : D} {xs : List D} (h : Sq d xs) : lenD d = some xs.length := by rcases h with rfl | rfl <;> rfl
/-- one to three things -/
def few (d : D) : Bool := (isLstD d || isTupD d) && (decide ((1 : Int) ≤ (((itemsD d).length : Nat) : Int)) && decide ((((itemsD d).length : Nat) : Int) ≤ 3))
theorem few_iff {d : D} : few d = true ↔ ∃ xs, Sq d xs ∧ 1 ≤ xs.length ∧ xs.length ≤ 3 := by
  unfold few
  rw [Bool.and_eq_true, Bool.and_eq_true, decide_eq_true_eq, decide_eq_true_eq]
  exact ⟨fun ⟨h1, h2, h3⟩ => ⟨_, sq_of h1, by omega, by omega⟩, fun ⟨xs, h, h2, h3⟩ => ⟨h.is, by rw [h.items]; omega, by rw [h.items]; omega⟩⟩
/-- different words, none of them empty -/
def Good (xs : List D) : Prop := ∃ ws : List (List Str), xs = ws.map wd ∧ ws.Nodup ∧ ∀ k ∈ ws, gw k ∧ k ≠ []
def FirstBad (xs : List D) (i : Nat) : Prop := i < xs.length ∧ Good (xs.take i) ∧ ¬ Good (xs.take (i + 1))
theorem Good.take {xs : List D} (h : Good xs) (n : Nat) : Good (xs.take n) := by
  obtain ⟨ws, rfl, nd, g⟩ := h
  exact ⟨ws.take n, by rw [List.map_take], nd.sublist (List.take_sublist n ws), fun k hk => g k (List.mem_of_mem_take hk)⟩
theorem FirstBad.no {xs : List D} {i : Nat} (h : FirstBad xs i) : ¬ Good xs := fun g => h.2.2 (g.take _)
theorem FirstBad.unique {xs : List D} {i j : Nat} (h : FirstBad xs i) (g : FirstBad xs j) : i = j := by
  rcases Nat.lt_trichotomy i j with q | q | q
  · exact absurd (by have := g.2.1.take (i + 1); rwa [List.take_take, Nat.min_eq_left (by omega)] at this) h.2.2
  · exact q
  · exact absurd (by have := h.2.1.take (j + 1); rwa [List.take_take, Nat.min_eq_left (by omega)] at this) g.2.2
theorem wd_inj {k l : List Str} (h : wd k = wd l) : k = l := by
  have : ∀ k l : List Str, k.map D.str = l.map D.str → k = l := by
    intro k
    induction k with
    | nil => intro l h; cases l with
      | nil => rfl
      | cons => cases h
    | cons x k ih => intro l h; cases l with
      | nil => cases h
      | cons y l =>
        simp only [List.map_cons, List.cons.injEq, D.str.injEq] at h
        rw [h.1, ih l h.2]
  exact this k l (D.tup.inj h)
theorem wds_inj : ∀ {k l : List (List Str)}, k.map wd = l.map wd → k = l
  | [], [], _ => rfl
  | [], _ :: _, h => by cases h
  | _ :: _, [], h => by cases h
  | x :: k, y :: l, h => by
    simp only [List.map_cons, List.cons.injEq] at h
    rw [wd_inj h.1, wds_inj h.2]
/-- one more -/
theorem good_snoc {xs : List D} {d : D} : Good (xs ++ [d]) ↔ ∃ (ws : List (List Str)) (k : List Str), xs = ws.map wd ∧ ws.Nodup ∧ (∀ l ∈ ws, gw l ∧ l ≠ []) ∧ d = wd k ∧ gw k ∧ k ≠ [] ∧ k ∉ ws := by
  constructor
  · rintro ⟨us, e, nd, g⟩
    have hl : us.length = xs.length + 1 := by
      have := congrArg List.length e
      rw [List.length_append, List.length_map] at this
      exact this.symm
    have hne : us ≠ [] := fun q => by rw [q] at hl; simp at hl
    obtain ⟨ws, k, rfl⟩ : ∃ (ws : List (List Str)) (k : List Str), us = ws ++ [k] := ⟨us.dropLast, us.getLast hne, (List.dropLast_concat_getLast hne).symm⟩
    rw [List.map_append] at e
    obtain ⟨e1, e2⟩ := List.append_inj' e rfl
    obtain ⟨n1, _, n3⟩ := List.nodup_append.mp nd
    refine ⟨ws, k, e1, n1, fun l hl => g l (List.mem_append_left _ hl), (List.cons.inj e2).1, (g k (by simp)).1, (g k (by simp)).2, fun hm => n3 k hm k (by simp) rfl⟩
  · rintro ⟨ws, k, rfl, nd, g, rfl, gk, nk, hn⟩
    refine ⟨ws ++ [k], by rw [List.map_append]; rfl, List.nodup_append.mpr ⟨nd, by simp, fun a ha b hb e => hn (by rw [← List.mem_singleton.mp hb, ← e]; exact ha)⟩, fun l hl => ?_⟩
    rcases List.mem_append.mp hl with hl | hl
    · exact g l hl
    · rw [List.mem_singleton.mp hl]
      exact ⟨gk, nk⟩
theorem take_snoc {xs : List D} {i : Nat} (hi : i < xs.length) : xs.take (i + 1) = xs.take i ++ [xs.getD i .non] := by
  rw [List.take_succ_eq_append_getElem hi, List.getD_eq_getElem?_getD, List.getElem?_eq_getElem hi]
  rfl
theorem good_nil : Good [] := ⟨[], rfl, List.nodup_nil, fun _ h => by cases h⟩
end PD

set_option Elab.async false
set_option linter.all false
set_option maxRecDepth 100000
set_option maxHeartbeats 4000000
/-! PI7: words read while an own list is seen; subscripts of any sequence; all words over some letters. -/
namespace PD
open PySem PySem.Spec PyProof.Rows L2
section
variable {z : Zp} {G G' H H1 : Hp} {hs : Addr → Prop} {σ : L2.St} {ρ : List Sl} {O : List Addr} {out : Out} {te : TE} {K : PySem.W.Frag} {P : D → Prop}
theorem SS.kind (h : SS z G H σ ρ O) : ∀ p ∈ O, ∃ o, H p = some o ∧ NT o := h.there
/-- flat data, or a tuple of such -/
def flat2 : D → Bool
  | .tup ds => ds.all flat
  | d => flat d
theorem flatA_any {vs : List V} : ∀ {ds : List D}, ds.all flat = true → ∀ {vs : List V}, RA z G vs ds → RA z G' vs ds
  | [], _, _, h => by cases h; exact .nil
  | d :: ds, f, _, h => by
    cases h with
    | cons h1 h2 =>
      rw [List.all_cons, Bool.and_eq_true] at f
      exact .cons (flat_any f.1 h1) (flatA_any (vs := vs) f.2 h2)
theorem flat2_own {v : V} {d : D} (f : flat2 d = true) (h : SS z G H1 σ ρ O) (r : R z (hid z hs H1) v d) : R z (hid z (hsO hs O) H1) v d := by
  cases d with
  | tup ds =>
    cases r with
    | @tup a xs _ h1 h2 =>
      obtain ⟨n, m, e⟩ := hid_some h1
      refine .tup (a := a) ?_ (flatA_any (vs := xs) f h2)
      rw [hid_ne n (by
        rintro (q | q)
        · exact m q
        · obtain ⟨o, q, nt⟩ := h.kind a q
          rw [e] at q
          cases q
          exact nt _ rfl)]
      exact e
  | _ => exact flat_any f r
/-- own.append(e), e read while the own list is seen -/
theorem x_appendT {i : Nat} {ds : List D} (he : ρ[i]? = some (.ow ds)) (hz : ds.length < sizeLine) (h : E1 z te (ρ.map Sl.see) fun d => flat2 d = true ∧ out.nx (ρ.set i (.ow (ds ++ [d])))) : X1 z (tDrop (tBM K "list" rAppend (tVar i) (tCons te tNil))) ρ out := fun hs σ H O s F w => by
  obtain ⟨p, vs, a, b, c, d⟩ := s.ss.own he
  refine ⟨.ref p, a, .inl ⟨rfl, vs, .inl (.inl c)⟩, ?_⟩
  refine s.see h fun v H1 dd e1 s1 r q => ?_
  obtain ⟨p', vs', a', b', c', d'⟩ := s1.ss.own he
  have : p' = p := by
    rw [a] at a'
    have := Option.some.inj (Option.some.inj a')
    cases this
    rfl
  subst this
  refine ⟨p', vs', v, rfl, rfl, c', by rw [d'.length]; exact hz, ?_⟩
  obtain ⟨n, s2⟩ := s1.change he a b (d'.append (.cons (flat2_own q.1 s1.ss r) .nil))
  exact w.nx _ _ _ O ((Nxt.of e1).trans n) s2 q.2
theorem x_asgT {i : Nat} (h : E1 z te (ρ.map Sl.see) fun d => flat2 d = true ∧ out.nx (ρ.set i (.va d))) : X1 z (tAsg te (gName i)) ρ out := fun hs σ H O s F w =>
  s.see h fun v H1 d e1 s1 r q => g_name q.2 hs σ H1 O s1 v (flat2_own q.1 s1.ss r) _ (w.nx.back (.of e1))
/-! ### e[i] of a list, a tuple or a text -/
theorem o_ixQ {d e : D} (h : (∃ (ds : List D) (i : Int) (v : D), (d = .lst ds ∨ d = .tup ds) ∧ e = .int i ∧ atI ds i = some v ∧ P v) ∨ (∃ (x : Str) (i : Int) (c : Nat), d = .str x ∧ e = .int i ∧ x.length ≤ sizeLine ∧ atI x.cps.toList i = some c ∧ P (.str ⟨#[c]⟩))) : O2 z (rIx K) d e P := fun hs x y H p rx ry Q w => by
  rcases h with ⟨ds, i, v, hd, he, hv, q⟩ | ⟨t, i, c, hd, he, hl, hc, q⟩
  · rcases hd with hd | hd
    · exact .inl (o_ixL ⟨ds, i, v, hd, he, hv, q⟩ hs x y H p rx ry Q w)
    · exact .inr (.inl (o_ixT ⟨ds, i, v, hd, he, hv, q⟩ hs x y H p rx ry Q w))
  · exact .inr (.inr (o_ixS ⟨t, i, c, hd, he, hl, hc, q⟩ hs x y H p rx ry Q w))
/-- [e for x in l if t]: t's answer for the i-th is c i, e gives g i -/
theorem e_lcIf {ρ : List (Option D)} {wi : TI} {tt : TT} {j : Nat} (hj0 : Nat.ble (j + 1) ρ.length = true)
    (h : EI z wi ρ fun n f => n ≤ 1000000 ∧ ∃ (g : Nat → D) (c : Nat → Bool), (∀ i, i < n → ∀ ρ' : List (Option D), ρ' = (ρ.set j none).set j (some (f i)) → ET z tt ρ' fun b => b = c i ∧ (b = true → E1 z te ρ' fun d => d = g i)) ∧ P (.lst (((List.range n).filter c).map g))) : E1 z (tLc wi (gName j) tt te [j]) ρ P := fun hs σ H p s Q w => by
  refine e_lc (P := P) (fun hs σ H p s Rr w => h hs σ H p s Rr fun J H1 n f e1 p1 wk ⟨hn, g, c, hg, q⟩ => w J H1 n f e1 p1 wk ⟨hn, fun i acc => acc = ((List.range i).filter c).map g, rfl, ?_, ?_⟩) hs σ H p s Q w
  · rintro i _ hi _ rfl
    refine ge_name (by simp) (t_imp (hg i hi _ rfl) ?_)
    rintro b ⟨rfl, hb⟩
    cases e : c i with
    | true =>
      rw [if_pos rfl]
      refine e_imp (hb e) ?_
      rintro _ rfl
      rw [List.range_succ, List.filter_append, List.map_append]
      simp [e]
    | false =>
      rw [if_neg (by decide)]
      show ((List.range i).filter c).map g = ((List.range (i + 1)).filter c).map g
      rw [List.range_succ, List.filter_append]
      simp [e]
  · rintro _ _ rfl
    exact q
end
/-! ### all words over some letters -/
def layW (ss : List Str) : Nat → List (List Str)
  | 0 => [[]]
  | n + 1 => (layW ss n).flatMap fun v => ss.map fun t => v ++ [t]
def fndW (ss : List Str) : Nat → List (List Str)
  | 0 => []
  | n + 1 => fndW ss n ++ layW ss (n + 1)
theorem lay_len (ss : List Str) : ∀ n, (layW ss n).length = ss.length ^ n
  | 0 => rfl
  | n + 1 => by
    have : ∀ l : List (List Str), (l.flatMap fun v => ss.map fun t => v ++ [t]).length = l.length * ss.length := fun l => by
      induction l with
      | nil => simp
      | cons a l ih => rw [List.flatMap_cons, List.length_append, ih, List.length_map, List.length_cons, Nat.add_mul, Nat.one_mul, Nat.add_comm]
    show ((layW ss n).flatMap fun v => ss.map fun t => v ++ [t]).length = _
    rw [this, lay_len ss n, Nat.pow_succ]
theorem lay_mem (ss : List Str) (hs : ∀ x ∈ ss, sgn x = true) : ∀ n, ∀ k ∈ layW ss n, k.length = n ∧ ∀ x ∈ k, sgn x = true
  | 0, k, h => by
    rw [List.mem_singleton.mp h]
    exact ⟨rfl, fun x hx => by cases hx⟩
  | n + 1, k, h => by
    obtain ⟨v, hv, hk⟩ := List.mem_flatMap.mp h
    obtain ⟨t, ht, rfl⟩ := List.mem_map.mp hk
    obtain ⟨h1, h2⟩ := lay_mem ss hs n v hv
    refine ⟨by rw [List.length_append, h1]; rfl, fun x hx => ?_⟩
    rcases List.mem_append.mp hx with hx | hx
    · exact h2 x hx
    · rw [List.mem_singleton.mp hx]
      exact hs t ht
theorem lay_rep (ss : List Str) {x : Str} (hx : x ∈ ss) : ∀ n, List.replicate n x ∈ layW ss n
  | 0 => List.mem_singleton.mpr rfl
  | n + 1 => List.mem_flatMap.mpr ⟨_, lay_rep ss hx n, List.mem_map.mpr ⟨x, hx, (List.replicate_succ' ..).symm⟩⟩
theorem fnd_mem (ss : List Str) : ∀ n k, k ∈ fndW ss n ↔ ∃ m, 1 ≤ m ∧ m ≤ n ∧ k ∈ layW ss m
  | 0, k => by
    constructor
    · intro h; cases h
    · rintro ⟨m, h1, h2, _⟩; omega
  | n + 1, k => by
    show k ∈ fndW ss n ++ layW ss (n + 1) ↔ _
    rw [List.mem_append, fnd_mem ss n k]
    constructor
    · rintro (⟨m, h1, h2, h3⟩ | h)
      · exact ⟨m, h1, by omega, h3⟩
      · exact ⟨n + 1, by omega, Nat.le_refl _, h⟩
    · rintro ⟨m, h1, h2, h3⟩
      by_cases e : m = n + 1
      · subst e; exact .inr h3
      · exact .inl ⟨m, h1, by omega, h3⟩
theorem fnd3 {ss : List Str} (hs : ∀ x ∈ ss, sgn x = true) : ∀ k ∈ fndW ss 3, gw k ∧ k ≠ [] := fun k hk => by
  obtain ⟨m, h1, h2, h3⟩ := (fnd_mem ss 3 k).mp hk
  obtain ⟨g1, g2⟩ := lay_mem ss hs m k h3
  exact ⟨⟨by omega, g2⟩, fun e => by rw [e] at g1; simp at g1; omega⟩
theorem fnd3_len {ss : List Str} (h : ss.length ≤ 3) : (fndW ss 3).length ≤ 39 := by
  show (((([] : List (List Str)) ++ layW ss 1) ++ layW ss 2) ++ layW ss 3).length ≤ 39
  rw [List.length_append, List.length_append, List.length_append, lay_len, lay_len, lay_len]
  have h1 : ss.length ^ 1 ≤ 3 ^ 1 := Nat.pow_le_pow_left h 1
  have h2 : ss.length ^ 2 ≤ 3 ^ 2 := Nat.pow_le_pow_left h 2
  have h3 : ss.length ^ 3 ≤ 3 ^ 3 := Nat.pow_le_pow_left h 3
  simp only [List.length_nil]
  omega
/-- three different ones of them -/
theorem fnd3_new {ss : List Str} {x : Str} (hx : x ∈ ss) {us : List (List Str)} (h : us.length < 3) : ∃ k ∈ fndW ss 3, k ∉ us := by
  have m : ∀ n, 1 ≤ n → n ≤ 3 → List.replicate n x ∈ fndW ss 3 := fun n h1 h2 => (fnd_mem ss 3 _).mpr ⟨n, h1, h2, lay_rep ss hx n⟩
  by_cases h1 : List.replicate 1 x ∈ us
  · by_cases h2 : List.replicate 2 x ∈ us
    · by_cases h3 : List.replicate 3 x ∈ us
      · have nd : ([List.replicate 1 x, List.replicate 2 x, List.replicate 3 x] : List (List Str)).Nodup := by simp [List.replicate]
        have := nodup_len nd (ws := us) fun k hk => by
          simp only [List.mem_cons, List.not_mem_nil, or_false] at hk
          rcases hk with rfl | rfl | rfl
          · exact h1
          · exact h2
          · exact h3
        simp at this
        omega
      · exact ⟨_, m 3 (by decide) (by decide), h3⟩
    · exact ⟨_, m 2 (by decide) (by decide), h2⟩
  · exact ⟨_, m 1 (by decide) (by decide), h1⟩
end PD

set_option Elab.async false
set_option linter.all false
set_option maxRecDepth 100000
set_option maxHeartbeats 4000000
/-! WSS: sets of texts: made of a list or a tuple, sorted, their number. -/
namespace WS
open PySem PySem.Spec PyProof.Rows L2
def strAt (e : Int × Value) : Str := match e.2 with | .str x _ => x | _ => ""
/-- the set of texts at a -/
structure Ts (w : World) (h : Heap) (a : Addr) (L : List Str) (es : Array (Int × Value)) (ep : Nat) (t : SetTable) : Prop where
  here : ∃ o, h.get? a = some o ∧ o.ExactSet ∧ o.data = .set es ep t
  good : ∀ e ∈ es.toList, ∃ x tk, e = (hashStr w x, Value.str x tk)
  keys : es.toList.map strAt = L
  one : L.Nodup
  fits : t.fits es.size = true
  ris : Ris t.place.toList
  led : w.params.followText "set-order" = true ∨ t.led = true
  few : L.length < 4000
/-- what came in of the first i of ks -/
structure HasS (ks : List Str) (i : Nat) (L : List Str) : Prop where
  sub : ∀ p ∈ L, p ∈ ks.take i
  all : ∀ p ∈ ks.take i, p ∈ L
  len : L.length ≤ i
theorem HasS.step {ks L L' : List Str} {i : Nat} {p : Str} (g : HasS ks i L) (hp : ks[i]? = some p) (c1 : p ∈ L → L' = L) (c2 : p ∉ L → L'.Perm (p :: L)) : HasS ks (i + 1) L' := by
  have e : ks.take (i + 1) = ks.take i ++ [p] := by rw [List.take_succ, hp]; rfl
  by_cases c : p ∈ L
  · obtain rfl := c1 c
    refine ⟨fun q hq => by rw [e]; exact List.mem_append_left _ (g.sub q hq), fun q hq => ?_, Nat.le_succ_of_le g.len⟩
    rw [e] at hq
    exact (List.mem_append.mp hq).elim (g.all q) fun h => by rw [List.mem_singleton.mp h]; exact c
  · have pm := c2 c
    refine ⟨fun q hq => ?_, fun q hq => ?_, by rw [pm.length_eq, List.length_cons]; have := g.len; omega⟩
    · rw [e]
      exact (List.mem_cons.mp (pm.mem_iff.mp hq)).elim (fun h => by rw [h]; exact List.mem_append_right _ List.mem_cons_self) fun h => List.mem_append_left _ (g.sub q h)
    · rw [pm.mem_iff]
      rw [e] at hq
      exact (List.mem_append.mp hq).elim (fun h => List.mem_cons_of_mem _ (g.all q h)) fun h => by rw [List.mem_singleton.mp h]; exact List.mem_cons_self
section
variable {P : Program} {w : World} {A : Around} {E : Value → Shared → Prop} {s : Shared}
theorem Ts.keep {h h' : Heap} {a : Addr} {L : List Str} {es : Array (Int × Value)} {ep : Nat} {t : SetTable} (R : Ts w h a L es ep t) (ha : ∀ o, h.get? a = some o → h'.get? a = some o) : Ts w h' a L es ep t := by
  obtain ⟨o, ho, r⟩ := R.here
  exact ⟨⟨o, ha o ho, r⟩, R.good, R.keys, R.one, R.fits, R.ris, R.led, R.few⟩
theorem ts_new {h : Heap} {a : Addr} (ho : h.get? a = some { cls := .type "set", dict := none, data := .set #[] 0 (.fresh 0 0 (!w.params.followText "set-order")) }) : Ts w h a [] #[] 0 (.fresh 0 0 (!w.params.followText "set-order")) where
  here := ⟨_, ho, ⟨rfl, rfl, rfl⟩, rfl⟩
  good := fun e he => by simp at he
  keys := rfl
  one := .nil
  fits := rfl
  ris := .nil
  led := by
    cases e : w.params.followText "set-order" with
    | true => exact .inl rfl
    | false => exact .inr rfl
  few := (by decide : 0 < 4000)
variable {a : Addr} {L : List Str} {es : Array (Int × Value)} {ep : Nat} {t : SetTable}
theorem Ts.elems (R : Ts w s.heap a L es ep t) : ElemsOf (strKind P w) es.toList := fun e he => by
  obtain ⟨x, tk, rfl⟩ := R.good e he
  exact ⟨⟨x, show Value.isStrOf x (.str x tk) = true by simp [Value.isStrOf], rfl⟩, rfl⟩
theorem Ts.size (R : Ts w s.heap a L es ep t) : es.size = L.length := by
  rw [← R.keys, List.length_map, Array.length_toList]
theorem is_at {x y : Str} {tk : Tok} : (strKind P w).is x (.str y tk) = true ↔ y = x := by
  show (y == x) = true ↔ y = x
  exact beq_iff_eq
/-- stored, and laid anew where it is too full -/
theorem put_endS {g : Bool → Sem Unit} (hg : ∀ (b : Bool) (s₁ : Shared) (Q' : Unit → Shared → Prop), Q' () s₁ → wpAny (model P w) A (g b) Q' E s₁) {o : Obj} (ho : s.heap.get? a = some o) (hex : o.ExactSet) (hd : o.data = .set es ep t) {L1 : List Str} {es1 : Array (Int × Value)} {t2 : SetTable}
    (good : ∀ e ∈ es1.toList, ∃ x tk, e = (hashStr w x, Value.str x tk)) (keys : es1.toList.map strAt = L1) (one : L1.Nodup) (fits : t2.fits es1.size = true) (ris : Ris t2.place.toList) (led : w.params.followText "set-order" = true ∨ t2.led = true) (few : L1.length < 4000) {wd : Bool} {R : Option Bool → Shared → Prop}
    (hR : ∀ h' L' es' ep' t', Heap.SameBut a s.heap h' → Ts w h' a L' es' ep' t' → L'.Perm L1 → R (some true) { s with heap := h' }) :
    wpAny (model P w) A (do
      storeSet a es1 t2
      if (!wd && t2.tooFull) = true then do
        g (relayAll t2 es1 (SetTable.grown es1.size)).2.2
        storeSet a (relayAll t2 es1 (SetTable.grown es1.size)).1 (relayAll t2 es1 (SetTable.grown es1.size)).2.1
        pure (some true)
      else pure (some true)) R E s := by
  have sz1 : es1.size = L1.length := by rw [← keys, List.length_map, Array.length_toList]
  have ok1 : es1.size ≤ sizeLine := by rw [sizeLine_eq]; omega
  refine wpAny_bind (wpAny_storeSet_of ho hd ?_ ok1)
  have ho1 := store_at (es' := es1) (t' := t2) ho hd
  have sb1 : Heap.SameBut a s.heap (s.heap.update a (Obj.putSet es1 t2)) := Heap.SameBut.update ..
  generalize s.heap.update a (Obj.putSet es1 t2) = h1 at ho1 sb1 ⊢
  split
  · have pm := relayAll_perm t2 es1 (SetTable.grown es1.size)
    have f3 := relayAll_fits t2 es1 (SetTable.grown es1.size)
    have r3 := relayAll_ris t2 es1 (SetTable.grown es1.size)
    have l3 := relayAll_led t2 es1 (SetTable.grown es1.size)
    generalize relayAll t2 es1 (SetTable.grown es1.size) = Z at pm f3 r3 l3 ⊢
    obtain ⟨es2, t3, gave⟩ := Z
    dsimp only at pm f3 r3 l3 ⊢
    have pk := pm.map strAt
    rw [keys] at pk
    have sz2 : es2.size ≤ sizeLine := by rw [← Array.length_toList, pm.length_eq, Array.length_toList]; exact ok1
    refine wpAny_bind (hg _ _ _ (wpAny_bind (wpAny_storeSet_of ho1 rfl ?_ sz2)))
    have ho2 := store_at (es' := es2) (t' := t3) ho1 rfl
    exact wpAny_pure (hR _ _ es2 _ t3 (sb1.trans (Heap.SameBut.update _ a _)) ⟨⟨_, ho2, ⟨hex.1, hex.2.1, hex.2.2⟩, rfl⟩, fun e he => good e (pm.mem_iff.mp he), rfl, pk.nodup_iff.mpr one, f3, r3, led.imp id fun z => by rw [l3]; exact z, by rw [pk.length_eq]; exact few⟩ pk)
  · exact wpAny_pure (hR _ _ es1 _ t2 sb1 ⟨⟨_, ho1, ⟨hex.1, hex.2.1, hex.2.2⟩, rfl⟩, good, keys, one, fits, ris, led, few⟩ (List.Perm.refl _))
/-- a text more -/
theorem put_inS (R : Ts w s.heap a L es ep t) {x : Str} {tk : Tok} (few : L.length + 1 < 4000) {Q : Bool → Shared → Prop}
    (hQ : ∀ b h' L' es' ep' t', Heap.SameBut a s.heap h' → Ts w h' a L' es' ep' t' → (x ∈ L → L' = L) → (x ∉ L → L'.Perm (x :: L)) → Q b { s with heap := h' }) :
    wpAny (model P w) A (setAddHashed a (.str x tk) (hashStr w x)) Q E s := by
  obtain ⟨o, ho, hex, hd⟩ := R.here
  have el := R.elems (P := P)
  have sz := R.size
  have key : (strKind P w).is x (.str x tk) = true := is_at.mpr rfl
  unfold setAddHashed setAddHashedIn
  refine wpAny_holding (wpAny_bind (wpAny_setState_of ho hd R.fits ?_))
  dsimp only
  rw [byScan_of (knd := strKind P w) rfl (show es.size < 4096 by omega) el]
  simp only [↓reduceIte]
  unfold setAddByScan
  refine wpAny_bind (wpAny_bind (wpAny_rule (wpAny_bind (wpAny_setScan_of (k := x) key ho hd R.fits el ?_))))
  cases hf : List.findIdx? (fun e => (strKind P w).is x e.2) es.toList with
  | some j =>
    dsimp only
    obtain ⟨hj, pj, _⟩ := List.findIdx?_eq_some_iff_getElem.mp hf
    have hx : x ∈ L := by
      obtain ⟨y, tk', e⟩ := R.good _ (List.getElem_mem hj)
      rw [e] at pj
      have := is_at.mp pj
      rw [← R.keys]
      refine List.mem_map.mpr ⟨_, List.getElem_mem hj, ?_⟩
      rw [e]
      exact this
    exact wpAny_pure (wpAny_pure (hQ false s.heap L es ep t (Heap.SameBut.refl a s.heap) R (fun _ => rfl) fun n => absurd hx n))
  | none =>
    dsimp only
    have hx : x ∉ L := fun hm => by
      rw [← R.keys] at hm
      obtain ⟨e, he, ex⟩ := List.mem_map.mp hm
      obtain ⟨y, tk', e2⟩ := R.good e he
      have c := List.findIdx?_eq_none_iff.mp hf e he
      rw [e2] at c ex
      have ex : y = x := ex
      rw [is_at.mpr ex] at c
      cases c
    have quiet : ∀ (b : Bool) (s₁ : Shared) (Q' : Unit → Shared → Prop), Q' () s₁ → wpAny (model P w) A (match b with | true => rule "set.scan.the-table-gave-way" | false => pure ()) Q' E s₁ := fun b s₁ Q' q => by
      cases b <;> first | exact wpAny_pure q | exact wpAny_rule q
    have pm := layNew_perm t es (hashStr w x) (.str x tk)
    have f1 := layNew_fits t es (hashStr w x) (.str x tk)
    have r1 := layNew_ris t es (hashStr w x) (.str x tk) R.ris
    have l1 := layNew_led t es (hashStr w x) (.str x tk)
    have eh : (strKind P w).hash x = hashStr w x := rfl
    generalize layNew t es (hashStr w x) (.str x tk) = Z at pm f1 r1 l1 ⊢
    obtain ⟨es1, t1, wd, gave⟩ := Z
    dsimp only at pm f1 r1 l1 ⊢
    rw [Array.toList_push] at pm
    have pc := pm.trans (List.perm_append_singleton _ _)
    have pk := pc.map strAt
    have good : ∀ e ∈ es1.toList, ∃ x tk, e = (hashStr w x, Value.str x tk) := fun e he => by
      rcases List.mem_cons.mp (pc.mem_iff.mp he) with z | z
      · exact ⟨x, tk, z⟩
      · exact R.good e z
    rw [List.map_cons, R.keys] at pk
    have pk : (es1.toList.map strAt).Perm (x :: L) := pk
    have one1 : (es1.toList.map strAt).Nodup := pk.nodup_iff.mpr (List.nodup_cons.mpr ⟨hx, R.one⟩)
    have len1 : (es1.toList.map strAt).length < 4000 := by rw [pk.length_eq, List.length_cons]; exact few
    have led1 : w.params.followText "set-order" = true ∨ t1.led = true := R.led.imp id fun z => by rw [l1]; exact z
    have fin : ∀ h' L' es' ep' t', Heap.SameBut a s.heap h' → Ts w h' a L' es' ep' t' → L'.Perm (es1.toList.map strAt) → Q true { s with heap := h' } := fun h' L' es' ep' t' sb T p => hQ true h' L' es' ep' t' sb T (fun z => absurd z hx) fun _ => p.trans pk
    refine wpAny_bind (quiet _ _ _ ?_)
    split
    · refine wpAny_bind ?_
      rw [hashByValue_scannable 8 (x := .str x tk) rfl]
      refine wpAny_pure ?_
      refine put_endS quiet ho hex hd good rfl one1 ?_ ?_ ?_ len1 fun h' L' es' ep' t' sb T p => wpAny_pure (fin h' L' es' ep' t' sb T p)
      · first | (split <;> first | exact f1 | exact SetTable.fits_plain_off f1) | exact f1
      · first | (split <;> exact r1) | exact r1
      · first | (split <;> exact led1) | exact led1
    · refine wpAny_bind (wpAny_pure ?_)
      simp only [↓reduceIte]
      exact put_endS quiet ho hex hd good rfl one1 f1 r1 led1 len1 fun h' L' es' ep' t' sb T p => wpAny_pure (fin h' L' es' ep' t' sb T p)
/-- the loop of set.update -/
theorem loopS {I : Addr} {fp wr : List Addr} {G : Array GenState → Array GenState → Prop} {n : Nat} {Pv : Nat → Value → Prop} {St : Nat → Shared → Prop} {R : Result → Shared → Prop} (W : WalksS P w A.in1 I fp wr G n Pv St) (S : Addr) (nS : S ∉ fp)
    (ks : List Str) (hn : n = ks.length) (few : ks.length < 4000) (val : ∀ i v, Pv i v → ∃ p tk, ks[i]? = some p ∧ v = .str p tk) (h0 : Heap) (hS : h0.get? S = none) (hw : ∀ b ∈ wr, h0.get? b = none) (hu : A.in1.units < cLine) :
    ∀ (k i : Nat) (s : Shared), n - i = k → i ≤ n → St i s → (∀ b o, h0.get? b = some o → s.heap.get? b = some o) → (∃ L es ep t, Ts w s.heap S L es ep t ∧ HasS ks i L) →
      (∀ s' L es ep t, Moved (S :: wr) G s s' → Ts w s'.heap S L es ep t → HasS ks n L → (∀ b o, h0.get? b = some o → s'.heap.get? b = some o) → R (.ok (.ret .none)) s') →
      codeAny (model P w) A (.builtin "set.update.loop" ⟨[.ref S, .ref I], []⟩) R s := by
  have nw : S ∉ wr := fun h => nS (W.sub _ h)
  have inc : ∀ b ∈ wr, b ∈ S :: wr := fun b => List.mem_cons_of_mem _
  have keepM : ∀ {s s' : Shared}, Moved wr G s s' → (∀ b o, h0.get? b = some o → s.heap.get? b = some o) → ∀ b o, h0.get? b = some o → s'.heap.get? b = some o := fun hm kp b o e =>
    hm.heap b o (fun hb => by rw [hw b hb] at e; cases e) (kp b o e)
  intro k
  induction k with
  | zero =>
    intro i s hk' hi st kp ⟨L, es, ep, t, T, g⟩ hR
    obtain rfl : i = n := by omega
    refine codeAny_builtin F.entry_set_update_loop ?_
    rw [Around.under_plainId F.plain_set_update_loop _]
    refine wpAny_bind (m := pyNext (.ref I)) (W.done s _ _ st fun s' hm => ?_)
    have kp' := keepM hm kp
    exact wpAny_pure (hR s' L es ep t (hm.mono inc) (T.keep fun o e => hm.heap S o nw e) g kp')
  | succ k ih =>
    intro i s hk' hi st kp ⟨L, es, ep, t, T, g⟩ hR
    have lt : i < n := by omega
    refine codeAny_builtin F.entry_set_update_loop ?_
    rw [Around.under_plainId F.plain_set_update_loop _]
    refine wpAny_bind (m := pyNext (.ref I)) (W.item i s _ _ lt st fun v s' hP st' hm => ?_)
    obtain ⟨p, tk, hp, rfl⟩ := val i v hP
    have kp' := keepM hm kp
    have T' : Ts w s'.heap S L es ep t := T.keep fun o e => hm.heap S o nw e
    refine wpAny_bind (m := holding [Value.str p tk] (setAdd S (.str p tk))) (wpAny_holding ?_)
    unfold setAdd
    refine wpAny_holding (wpAny_bind (wpAny_pyHash_str ?_))
    refine put_inS (s := { s' with toks := s'.toks + 1 }) T' (by have := g.len; omega) fun b h' L' es' ep' t' sb T2 c1 c2 => ?_
    have kp2 : ∀ b o, h0.get? b = some o → h'.get? b = some o := fun b o e => (sb.2 b (fun z => by rw [z, hS] at e; cases e)).trans (kp' b o e)
    refine wpAny_pure ⟨plainId_quiet F.plain_set_update_loop _, ih (i + 1) _ (by omega) lt (W.frame _ s' _ _ st' (Nat.le_add_right _ _) fun b hb o e => ?_) kp2 ⟨L', es', ep', t', T2, g.step hp c1 c2⟩ fun s'' L2 es2 ep2 t2 hm2 T3 g3 kp3 => ?_⟩
    · rw [sb.2 b (fun e2 => nS (e2 ▸ hb))]; exact e
    · refine hR s'' L2 es2 ep2 t2 (Moved.trans W.gtrans ((hm.mono inc).then_heap (Nat.le_add_right _ _) fun b o hb e => ?_) hm2) T3 g3 kp3
      rw [sb.2 b (fun e2 => hb (e2 ▸ List.mem_cons_self))]; exact e

/-- set(xs) of a list -/
theorem set_listS {l : Addr} {items : Array Value} (ks : List Str) {Q : Value → Shared → Prop} (hh : A.handled = none) (hl : s.heap.IsList l items) (hit : Vals (ks.map V.str) items.toList) (few : ks.length < 4000) (hu : A.units + 3 < cLine)
    (h : ∀ (h' : Heap) (tk : Nat) L es ep t, Ts w h' s.heap.objs.size L es ep t → HasS ks ks.length L → (∀ b o, s.heap.get? b = some o → h'.get? b = some o) → Q (.ref s.heap.objs.size) { s with heap := h', toks := tk }) :
    wpAny (model P w) A (call (.type "set") [.ref l]) Q E s := by
  have isz : items.size = ks.length := by
    have := hit.length
    rw [List.length_map, Array.length_toList] at this
    exact this.symm
  obtain ⟨c, tl, hmro⟩ := F.called_set.mro
  have hmade := F.called_set.made
  have hsub := F.called_set.sub
  refine wpAny_call (codeAny_of_tree ?_)
  show wpAny _ _ (callAny (.type "set") _) _ _ _
  refine wpAny_pure ⟨Code.quiet_builtin _ (by decide +kernel), codeAny_builtin F.entry_type_call ?_⟩
  rw [Around.under_plain (weight_type_call_type "set" [.ref l] []) rfl]
  have h1 := F.called_set.notType
  have h2 := F.called_set.canCreate
  have hct := F.typeCall_set_1 (.ref l)
  repeat (any_goals (first | assumption | wp_step))
  refine codeAny_mono (code_set_led1 (.ref l) (E := E) (Q₁ := fun obj s₁ => obj = .ref s.heap.objs.size ∧ s₁ = { s with heap := s.heap.push { cls := .type "set", dict := none, data := .set #[] 0 (.fresh 0 0 (!w.params.followText "set-order")) } }) ⟨rfl, rfl⟩) fun r s₁ hr => ?_
  rcases r with e | (obj | _ | _ | _) <;> first | exact hr | exact hr.elim | skip
  obtain ⟨rfl, rfl⟩ := hr
  have gS : (s.heap.push { cls := .type "set", dict := none, data := .set #[] 0 (.fresh 0 0 (!w.params.followText "set-order")) }).get? s.heap.objs.size = some { cls := .type "set", dict := none, data := .set #[] 0 (.fresh 0 0 (!w.params.followText "set-order")) } := Heap.get?_push_size _ rfl
  have tS : Shared.TypeIs { s with heap := s.heap.push { cls := .type "set", dict := none, data := .set #[] 0 (.fresh 0 0 (!w.params.followText "set-order")) } } (.ref s.heap.objs.size) "set" := ⟨_, gS, rfl⟩
  have hli := F.called_set.init.lookup
  have hbi := F.called_set.init.bind (.ref s.heap.objs.size)
  repeat (any_goals (first | assumption | wp_step))
  refine codeAny_mono (codeAny_call_builtin (R := wants (fun r s₂ => r = .none ∧ ∃ h' tk L es ep t, s₂ = { s with heap := h', toks := tk } ∧ Ts w h' s.heap.objs.size L es ep t ∧ HasS ks ks.length L ∧ (∀ b o, s.heap.get? b = some o → h'.get? b = some o)) E) F.called_set.init.plain F.entry_set_init (check_set_init_1 tS ?_)) fun r₂ s₂ hr₂ => ?_
  · obtain ⟨⟨ocls, odict, odata, oslots⟩, hol, hcl, nl, hdl⟩ := hl
    simp only at hcl hdl
    subst hcl hdl
    have hol' := Heap.get?_push_of_some { cls := .type "set", dict := none, data := .set #[] 0 (.fresh 0 0 (!w.params.followText "set-order")) } hol
    have hsls := F.sub_list_set
    have hslf := F.sub_list_frozenset
    have hne : (Value.type "list" == Value.type "dict") = false := by decide
    have hl1 : (s.heap.push { cls := .type "set", dict := none, data := .set #[] 0 (.fresh 0 0 (!w.params.followText "set-order")) }).IsList l items := ⟨_, hol', rfl, nl, rfl⟩
    unfold Builtin.«set.__init__» noKeywords Builtin.Frozenset.updateFrom
    generalize hPI : pyIter = PI
    wp_walk
    subst hPI
    refine wpAny_pyIter_list hl1 (wpAny_bind (wpAny_runValue ?_))
    have lS : l < s.heap.objs.size := Heap.lt_size hol
    have sz1 : (s.heap.push { cls := .type "set", dict := none, data := .set #[] 0 (.fresh 0 0 (!w.params.followText "set-order")) }).objs.size = s.heap.objs.size + 1 := Heap.size_push ..
    have gone : ∀ b, s.heap.objs.size ≤ b → s.heap.get? b = none := fun b hb => Heap.get?_none_of_le hb
    refine loopS ((Walks.list (by simp [hh]) _ l (by rw [sz1]; exact Nat.ne_of_lt (Nat.lt_succ_of_lt lS)) items).toS) s.heap.objs.size (by rw [sz1]; simp only [List.mem_cons, List.not_mem_nil, or_false, not_or]; exact ⟨Nat.ne_of_lt (Nat.lt_succ_self _), Nat.ne_of_gt lS⟩) ks isz few (fun i v hv => ?_) s.heap (gone _ (Nat.le_refl _))
      (fun b hb => gone b (by rw [List.mem_singleton.mp hb, sz1]; exact Nat.le_succ _)) hu (items.size - 0) 0 _ (by omega) (Nat.zero_le _) ⟨⟨_, Heap.get?_push_size _ rfl, rfl, rfl⟩, hl1.push _⟩ (fun b o e => Heap.get?_push_of_some _ (Heap.get?_push_of_some _ e)) ?_ fun s' L es ep t hm T g kp => ?_
    · have q : items.toList[i]? = some v := by rw [Array.getElem?_toList]; exact hv
      have hi : i < ks.length := by
        rw [← isz]
        exact (Array.getElem?_eq_some_iff.mp hv).1
      obtain ⟨u, e, ru⟩ := hit.get (x := V.str ks[i]) (by rw [List.getElem?_map, List.getElem?_eq_getElem hi]; rfl)
      rw [q] at e
      cases e
      obtain ⟨tk, e⟩ := ru
      exact ⟨_, tk, List.getElem?_eq_getElem hi, e⟩
    · exact ⟨[], #[], 0, _, ts_new (Heap.get?_push_of_some _ gS), ⟨fun p h => (nomatch h), fun p h => by simp at h, Nat.le_refl _⟩⟩
    · obtain ⟨h', g2, d', tk', os'⟩ := s'
      obtain rfl : g2 = s.gens := hm.gens
      obtain rfl : d' = s.drawn := hm.drawn
      obtain rfl : os' = s.os := hm.os
      show wpAny _ _ _ _ _ _
      refine wpAny_pure ?_
      show wpAny _ _ (ret Value.none) _ _ _
      rw [isz] at g
      exact wpAny_pure ⟨rfl, h', tk', L, es, ep, t, rfl, T, g, kp⟩
  · rcases r₂ with e | (r | _ | _ | _) <;> first | exact hr₂ | exact hr₂.elim | skip
    obtain ⟨rfl, h', tk, L, es, ep, t, rfl, T, g, kp⟩ := hr₂
    repeat (any_goals (first | assumption | wp_step))
    exact h _ _ _ _ _ _ T g kp

/-- set(xs) of a tuple -/
theorem set_tupleS {l : Addr} {items : Array Value} (ks : List Str) {Q : Value → Shared → Prop} (hh : A.handled = none) (hl : s.heap.IsTuple l items) (hit : Vals (ks.map V.str) items.toList) (few : ks.length < 4000) (hu : A.units + 3 < cLine)
    (h : ∀ (h' : Heap) (tk : Nat) L es ep t, Ts w h' s.heap.objs.size L es ep t → HasS ks ks.length L → (∀ b o, s.heap.get? b = some o → h'.get? b = some o) → Q (.ref s.heap.objs.size) { s with heap := h', toks := tk }) :
    wpAny (model P w) A (call (.type "set") [.ref l]) Q E s := by
  have isz : items.size = ks.length := by
    have := hit.length
    rw [List.length_map, Array.length_toList] at this
    exact this.symm
  obtain ⟨c, tl, hmro⟩ := F.called_set.mro
  have hmade := F.called_set.made
  have hsub := F.called_set.sub
  refine wpAny_call (codeAny_of_tree ?_)
  show wpAny _ _ (callAny (.type "set") _) _ _ _
  refine wpAny_pure ⟨Code.quiet_builtin _ (by decide +kernel), codeAny_builtin F.entry_type_call ?_⟩
  rw [Around.under_plain (weight_type_call_type "set" [.ref l] []) rfl]
  have h1 := F.called_set.notType
  have h2 := F.called_set.canCreate
  have hct := F.typeCall_set_1 (.ref l)
  repeat (any_goals (first | assumption | wp_step))
  refine codeAny_mono (code_set_led1 (.ref l) (E := E) (Q₁ := fun obj s₁ => obj = .ref s.heap.objs.size ∧ s₁ = { s with heap := s.heap.push { cls := .type "set", dict := none, data := .set #[] 0 (.fresh 0 0 (!w.params.followText "set-order")) } }) ⟨rfl, rfl⟩) fun r s₁ hr => ?_
  rcases r with e | (obj | _ | _ | _) <;> first | exact hr | exact hr.elim | skip
  obtain ⟨rfl, rfl⟩ := hr
  have gS : (s.heap.push { cls := .type "set", dict := none, data := .set #[] 0 (.fresh 0 0 (!w.params.followText "set-order")) }).get? s.heap.objs.size = some { cls := .type "set", dict := none, data := .set #[] 0 (.fresh 0 0 (!w.params.followText "set-order")) } := Heap.get?_push_size _ rfl
  have tS : Shared.TypeIs { s with heap := s.heap.push { cls := .type "set", dict := none, data := .set #[] 0 (.fresh 0 0 (!w.params.followText "set-order")) } } (.ref s.heap.objs.size) "set" := ⟨_, gS, rfl⟩
  have hli := F.called_set.init.lookup
  have hbi := F.called_set.init.bind (.ref s.heap.objs.size)
  repeat (any_goals (first | assumption | wp_step))
  refine codeAny_mono (codeAny_call_builtin (R := wants (fun r s₂ => r = .none ∧ ∃ h' tk L es ep t, s₂ = { s with heap := h', toks := tk } ∧ Ts w h' s.heap.objs.size L es ep t ∧ HasS ks ks.length L ∧ (∀ b o, s.heap.get? b = some o → h'.get? b = some o)) E) F.called_set.init.plain F.entry_set_init (check_set_init_1 tS ?_)) fun r₂ s₂ hr₂ => ?_
  · obtain ⟨⟨ocls, odict, odata, oslots⟩, hol, hcl, nl, hdl⟩ := hl
    simp only at hcl hdl
    subst hcl hdl
    have hol' := Heap.get?_push_of_some { cls := .type "set", dict := none, data := .set #[] 0 (.fresh 0 0 (!w.params.followText "set-order")) } hol
    have hsls := F.sub_tuple_set
    have hslf := F.sub_tuple_frozenset
    have hne : (Value.type "tuple" == Value.type "dict") = false := by decide
    have hl1 : (s.heap.push { cls := .type "set", dict := none, data := .set #[] 0 (.fresh 0 0 (!w.params.followText "set-order")) }).IsTuple l items := ⟨_, hol', rfl, nl, rfl⟩
    unfold Builtin.«set.__init__» noKeywords Builtin.Frozenset.updateFrom
    generalize hPI : pyIter = PI
    wp_walk
    subst hPI
    refine wpAny_pyIter_tuple hl1 (wpAny_bind (wpAny_runValue ?_))
    have lS : l < s.heap.objs.size := Heap.lt_size hol
    have sz1 : (s.heap.push { cls := .type "set", dict := none, data := .set #[] 0 (.fresh 0 0 (!w.params.followText "set-order")) }).objs.size = s.heap.objs.size + 1 := Heap.size_push ..
    have gone : ∀ b, s.heap.objs.size ≤ b → s.heap.get? b = none := fun b hb => Heap.get?_none_of_le hb
    refine loopS ((Walks.tuple (by simp [hh]) _ l (by rw [sz1]; exact Nat.ne_of_lt (Nat.lt_succ_of_lt lS)) items).toS) s.heap.objs.size (by rw [sz1]; simp only [List.mem_cons, List.not_mem_nil, or_false, not_or]; exact ⟨Nat.ne_of_lt (Nat.lt_succ_self _), Nat.ne_of_gt lS⟩) ks isz few (fun i v hv => ?_) s.heap (gone _ (Nat.le_refl _))
      (fun b hb => gone b (by rw [List.mem_singleton.mp hb, sz1]; exact Nat.le_succ _)) hu (items.size - 0) 0 _ (by omega) (Nat.zero_le _) ⟨⟨_, Heap.get?_push_size _ rfl, rfl, rfl⟩, hl1.push _⟩ (fun b o e => Heap.get?_push_of_some _ (Heap.get?_push_of_some _ e)) ?_ fun s' L es ep t hm T g kp => ?_
    · have q : items.toList[i]? = some v := by rw [Array.getElem?_toList]; exact hv
      have hi : i < ks.length := by
        rw [← isz]
        exact (Array.getElem?_eq_some_iff.mp hv).1
      obtain ⟨u, e, ru⟩ := hit.get (x := V.str ks[i]) (by rw [List.getElem?_map, List.getElem?_eq_getElem hi]; rfl)
      rw [q] at e
      cases e
      obtain ⟨tk, e⟩ := ru
      exact ⟨_, tk, List.getElem?_eq_getElem hi, e⟩
    · exact ⟨[], #[], 0, _, ts_new (Heap.get?_push_of_some _ gS), ⟨fun p h => (nomatch h), fun p h => by simp at h, Nat.le_refl _⟩⟩
    · obtain ⟨h', g2, d', tk', os'⟩ := s'
      obtain rfl : g2 = s.gens := hm.gens
      obtain rfl : d' = s.drawn := hm.drawn
      obtain rfl : os' = s.os := hm.os
      show wpAny _ _ _ _ _ _
      refine wpAny_pure ?_
      show wpAny _ _ (ret Value.none) _ _ _
      rw [isz] at g
      exact wpAny_pure ⟨rfl, h', tk', L, es, ep, t, rfl, T, g, kp⟩
  · rcases r₂ with e | (r | _ | _ | _) <;> first | exact hr₂ | exact hr₂.elim | skip
    obtain ⟨rfl, h', tk, L, es, ep, t, rfl, T, g, kp⟩ := hr₂
    repeat (any_goals (first | assumption | wp_step))
    exact h _ _ _ _ _ _ T g kp
end
end WS

set_option Elab.async false
set_option linter.all false
set_option maxRecDepth 100000
set_option maxHeartbeats 4000000
/-! WSS2: sorted(set(texts)), len(set(texts)), sorted(texts): over the heap, as rules. -/
namespace WS
open PySem PySem.Spec PySem.W PyProof.Rows L2
def lexT (L : List Str) : List Str := L.mergeSort (dataLe false fun x : Str => PyData.str x)
def IsT (v : Value) (x : Str) : Prop := ∃ t, v = .str x t
theorem texts_each : ∀ {xs : List Str} {us : List Value}, Vals (xs.map V.str) us → EachIs IsT us xs
  | [], _, .nil => .nil
  | _ :: _, _, .cons r t => .cons r (texts_each t)
theorem each_texts : ∀ {xs : List Str} {us : List Value}, EachIs IsT us xs → Vals (xs.map V.str) us
  | _, _, .nil => .nil
  | _, _, .cons r t => .cons r (each_texts t)
theorem each_len : ∀ {xs : List Str} {us : List Value}, EachIs IsT us xs → us.length = xs.length
  | _, _, .nil => rfl
  | _, _, .cons _ t => by rw [List.length_cons, List.length_cons, each_len t]
theorem each_mem : ∀ {xs : List Str} {us : List Value}, EachIs IsT us xs → ∀ v ∈ us, ∃ x t, v = Value.str x t
  | _, _, .nil, _, h => nomatch h
  | _, _, .cons r t, v, h => by
    rcases List.mem_cons.mp h with e | h
    · obtain ⟨tk, e2⟩ := r
      exact ⟨_, tk, e.trans e2⟩
    · exact each_mem t v h
theorem good_each {w : World} : ∀ {l : List (Int × Value)}, (∀ e ∈ l, ∃ x tk, e = (hashStr w x, Value.str x tk)) → EachIs IsT (l.map (·.2)) (l.map strAt)
  | [], _ => .nil
  | e :: l, h => by
    obtain ⟨x, tk, q⟩ := h e List.mem_cons_self
    refine .cons ⟨tk, ?_⟩ (good_each fun e he => h e (List.mem_cons_of_mem _ he))
    rw [q]
    rfl
theorem text_reads {h : Heap} : ∀ {vs : List Value} {bs : List Str}, EachIs IsT vs bs → EachIs (fun v d => ∃ as, Reads h v d as) vs (bs.map fun x => PyData.str x)
  | _, _, .nil => .nil
  | _, _, .cons r t => by
    obtain ⟨tk, rfl⟩ := r
    exact .cons ⟨_, .str _ _⟩ (text_reads t)
section
variable {P : Program} {w : World} {A : Around} {E : Value → Shared → Prop} {s : Shared}
/-- a list of texts in the sort's hands -/
theorem sorts_texts {vs : List Value} {bs : List Str} (e : EachIs IsT vs bs) (hu : A.units + 1 < cLine) : ∃ κ, SortsAt P w A s κ vs ∧ κ = dataKind s.heap (bs.map fun x => PyData.str x) := by
  refine ⟨_, SortsAt.data (text_reads e) (AllAlike.of fun _ _ => by simp [alike]) (Sortable.others fun _ => ⟨by simp, by simp⟩) (fun d hd => ?_), rfl⟩
  obtain ⟨x, _, rfl⟩ := List.mem_map.mp hd
  simp only [PyData.depth]
  omega
variable {a : Addr} {L : List Str} {es : Array (Int × Value)} {ep : Nat} {t : SetTable}
theorem sorted_setS (R : Ts w s.heap a L es ep t) (hh : A.handled = none) (hu : A.units + 8 < cLine) {Q : Value → Shared → Prop}
    (hQ : ∀ s' p c L1 us, (∀ b o, s.heap.get? b = some o → s'.heap.get? b = some o) → s'.gens = s.gens → s'.os = s.os → s.heap.objs.size ≤ p → L1.Perm L → EachIs IsT us (lexT L1) → s'.heap.get? p = some (seqObj "list" us.toArray c) → Q (.ref p) s') :
    wpAny (model P w) A (call (.builtin "sorted") [.ref a]) Q E s := by
  obtain ⟨o, ho, hex, hd⟩ := R.here
  have sl := R.size
  have few := R.few
  refine Calls.call_function_entry kind_sorted plain_sorted entry_sorted (args_sorted1 _) ?_
  unfold Builtin.«sorted»
  refine wpAny_bind (m := checkCount "sorted" 1 1 _) (wpAny_pure ?_)
  refine wpAny_bind (collect_set (A := A.in1) hh ⟨o, ho, hex.1, hd⟩ R.fits (by show es.size < 4096; omega) R.ris R.led fun s1 vs k1 hz g1 o1 pm => ?_)
  obtain ⟨l1, p1, e1⟩ := perm_lift pm es.toList rfl
  have ei : EachIs IsT vs (l1.map strAt) := by
    rw [← e1]
    exact good_each fun e he => R.good e (p1.mem_iff.mp he)
  have pL : (l1.map strAt).Perm L := by
    rw [← R.keys]
    exact p1.map strAt
  generalize l1.map strAt = bs at ei pL
  have lv : vs.length = L.length := (each_len ei).trans pL.length_eq
  refine wpAny_bind (wpAny_newList ?_ (by rw [sizeLine_eq]; omega))
  have hoL : (s1.heap.push (seqObj "list" vs.toArray 0)).get? s1.heap.objs.size = some (seqObj "list" vs.toArray 0) := Heap.get?_push_size _ rfl
  have hal : AllAlike (bs.map fun x : Str => PyData.str x) := AllAlike.of fun _ _ => by simp [alike]
  obtain ⟨κ, S, ek⟩ := sorts_texts (P := P) (w := w) (A := A.in1.in1) (s := { s1 with heap := sortingHeap (s1.heap.push (seqObj "list" vs.toArray 0)) s1.heap.objs.size vs }) ei (by show A.units + 1 + 1 + 1 < _; omega)
  subst ek
  refine wpAny_bind (wpAny_holding (wpAny_call_entry slot_list_sort ⟨_, hoL, rfl⟩ entry_list_sort (list_sort_vals (s := { s1 with heap := s1.heap.push (seqObj "list" vs.toArray 0) }) hoL S (by rw [sizeLine_eq]; omega) ⟨.none, rfl, ?_⟩) (args_list_sort _)))
  have er : EachIs (fun v (x : Str) => ∃ as, Reads (sortingHeap (s1.heap.push (seqObj "list" vs.toArray 0)) s1.heap.objs.size vs) v (PyData.str x) as) vs bs := by
    have : ∀ {vs : List Value} {bs : List Str} {h : Heap}, EachIs IsT vs bs → EachIs (fun v (x : Str) => ∃ as, Reads h v (PyData.str x) as) vs bs := by
      intro vs bs h e
      induction e with
      | nil => exact .nil
      | cons r _ ih =>
        obtain ⟨tk, rfl⟩ := r
        exact .cons ⟨_, .str _ _⟩ ih
    exact this ei
  have out := sortVals_data (enc := fun x : Str => PyData.str x) (R := IsT) false ei er hal
  obtain ⟨c, hc⟩ := sortedHeap_at (vs := vs) (out := (sortVals (dataKind (sortingHeap (s1.heap.push (seqObj "list" vs.toArray 0)) s1.heap.objs.size vs) (bs.map fun x : Str => PyData.str x)) false vs vs).toArray) hoL
  refine wpAny_pure ⟨_, rfl, hQ _ s1.heap.objs.size c bs _ (fun b u e => ?_) g1 o1 hz pL out hc⟩
  have q := k1 b u e
  have lt := Heap.lt_size q
  show (sortedHeap (s1.heap.push (seqObj "list" vs.toArray 0)) s1.heap.objs.size vs _).get? b = some u
  rw [sortedHeap_old (Nat.ne_of_lt lt) (by rw [size_push']; exact Nat.lt_succ_of_lt lt)]
  exact Heap.get?_push_of_some _ q
end
/-! ### as rules -/
/-- sorted(set(e)) -/
def tSortSetS (K : PySem.W.Frag) (te : TE) : TE := fun σ H Q => te σ H fun x H1 => ∃ (l : Addr) (ks : List Str), x = V.ref l ∧ (SqL K H1 l (ks.map V.str) ∨ SqT K H1 l (ks.map V.str)) ∧ ks.length < 4000 ∧
  ∀ (L1 : List Str) (p : Addr), L1.Nodup → (∀ k, k ∈ L1 ↔ k ∈ ks) → H1 p = none → Q (.ref p) (upd H1 p (.lst ((lexT L1).map V.str)))
/-- len(set(e)) -/
def tLenSetS (K : PySem.W.Frag) (te : TE) : TE := fun σ H Q => te σ H fun x H1 => ∃ (l : Addr) (ks : List Str), x = V.ref l ∧ (SqL K H1 l (ks.map V.str) ∨ SqT K H1 l (ks.map V.str)) ∧ ks.length < 4000 ∧
  ∀ (L1 : List Str), L1.Nodup → (∀ k, k ∈ L1 ↔ k ∈ ks) → Q (.int (L1.length : Nat)) H1
section
variable {X : Cx} {e : Expr} {te : TE} {p1 p2 q1 q2 : Pos}
theorem HasS.nodup {ks L : List Str} (g : HasS ks ks.length L) : ∀ k, k ∈ L ↔ k ∈ ks := fun k => ⟨fun h => List.mem_of_mem_take (g.sub k h), fun h => g.all k (by rw [List.take_length]; exact h)⟩
theorem pe_sortSetS (hc : X.calm = true) (hu : X.A.units + 64 < cLine) (hg : Gl X "sorted") (hm : X.mg "sorted" = none) (hg2 : Gl X "set") (hm2 : X.mg "set" = none) (he : PE X e te)
    (na : starEach [e] X.env = (false, eval e X.env) :: starEach [] X.env := by rfl) : PE X (.Call (.Name "sorted" p1) [.Call (.Name "set" p2) [e] [] q2] [] q1) (tSortSetS X.K te) := by
  refine ⟨fun pins s σ H Q I h => ?_⟩
  refine Call_ (ld_blt I hg hm boot_sorted ?_)
  refine PyProof.Rows.callWith_builtin1 (PyProof.Rows.args_cons ?_ rfl) rfl rfl
  refine Call_ (ld_blt I hg2 hm2 PyProof.Rows.boot_set ?_)
  refine PyProof.Rows.callWith_type1 (PyProof.Rows.args_cons (thn (he.run pins s σ H _ I h) fun v s1 ⟨x, H1, I1, r1, h1⟩ => PyProof.Rows.args_nil ?_) na) na rfl
  obtain ⟨l, ks, rfl, hq, few, h1⟩ := h1
  cases r1
  have next : ∀ (h' : Heap) (tk : Nat) L es ep t, Ts X.w h' s1.heap.objs.size L es ep t → HasS ks ks.length L → (∀ b o, s1.heap.get? b = some o → h'.get? b = some o) →
      wpAny (model X.prog X.w) X.A (call (.builtin "sorted") [.ref s1.heap.objs.size]) (EP X pins σ Q) X.xe { s1 with heap := h', toks := tk } := fun h' tk L es ep t T g kp => by
    refine sorted_setS (s := { s1 with heap := h', toks := tk }) T (I1.ok.hd hc) (by omega) fun s' p c L1 us k2 g2 o2 hp pm er ho => ?_
    have lu : us.length = L1.length := (each_len er).trans (List.mergeSort_perm _ _).length_eq
    have hlen : ((lexT L1).map V.str).length ≤ sizeLine := by
      rw [List.length_map, lexT, (List.mergeSort_perm _ _).length_eq, pm.length_eq, sizeLine_eq]
      have := T.few
      omega
    have kk : ∀ b o, s1.heap.get? b = some o → s'.heap.get? b = some o := fun b o e => k2 b o (kp b o e)
    have big : s1.heap.objs.size ≤ p := by
      obtain ⟨o, ho, _⟩ := T.here
      exact Nat.le_trans (Nat.le_of_lt (Heap.lt_size ho)) hp
    have nw : H1 p = none := I1.hok.fresh big
    have J : Inv X pins σ (upd H1 p (.lst ((lexT L1).map V.str))) { s1 with heap := s'.heap, gens := s'.gens, drawn := s'.drawn, toks := s'.toks } :=
      I1.call (ch := []) (Un.laid kk big nw) (I1.hok.laid kk big ⟨hlen, _, c, each_texts er, ho⟩) (by rw [show s'.gens = s1.gens from g2]; exact I1.bare) (fun _ z => nomatch z)
    have e : s' = { s1 with heap := s'.heap, gens := s'.gens, drawn := s'.drawn, toks := s'.toks } := by
      cases s'
      cases s1
      cases o2
      rfl
    rw [e]
    exact ⟨.ref p, _, J, rfl, h1 L1 p (pm.nodup_iff.mpr T.one) (fun k => pm.mem_iff.trans (g.nodup k)) nw⟩
  rcases hq with hq | hq
  · obtain ⟨its, rv, pl, hz⟩ := I1.list hq
    exact set_listS ks (I1.ok.hd hc) pl.isList (by simpa using rv) few (by omega) fun h' tk L es ep t T g kp => PyProof.Rows.args_nil (next h' tk L es ep t T g kp)
  · obtain ⟨its, rv, pl, hz⟩ := I1.tuple hq
    exact set_tupleS ks (I1.ok.hd hc) pl (by simpa using rv) few (by omega) fun h' tk L es ep t T g kp => PyProof.Rows.args_nil (next h' tk L es ep t T g kp)
theorem pe_lenSetS (hc : X.calm = true) (hu : X.A.units + 64 < cLine) (hg : Gl X "len") (hm : X.mg "len" = none) (hg2 : Gl X "set") (hm2 : X.mg "set" = none) (he : PE X e te)
    (na : starEach [e] X.env = (false, eval e X.env) :: starEach [] X.env := by rfl) : PE X (.Call (.Name "len" p1) [.Call (.Name "set" p2) [e] [] q2] [] q1) (tLenSetS X.K te) := by
  refine ⟨fun pins s σ H Q I h => ?_⟩
  refine Call_ (ld_blt I hg hm PySem.boot_len ?_)
  refine PyProof.Rows.callWith_builtin1 (PyProof.Rows.args_cons ?_ rfl) rfl rfl
  refine Call_ (ld_blt I hg2 hm2 PyProof.Rows.boot_set ?_)
  refine PyProof.Rows.callWith_type1 (PyProof.Rows.args_cons (thn (he.run pins s σ H _ I h) fun v s1 ⟨x, H1, I1, r1, h1⟩ => PyProof.Rows.args_nil ?_) na) na rfl
  obtain ⟨l, ks, rfl, hq, few, h1⟩ := h1
  cases r1
  have next : ∀ (h' : Heap) (tk : Nat) L es ep t, Ts X.w h' s1.heap.objs.size L es ep t → HasS ks ks.length L → (∀ b o, s1.heap.get? b = some o → h'.get? b = some o) →
      wpAny (model X.prog X.w) X.A (call (.builtin "len") [.ref s1.heap.objs.size]) (EP X pins σ Q) X.xe { s1 with heap := h', toks := tk } := fun h' tk L es ep t T g kp => by
    obtain ⟨o, ho, hex, hd⟩ := T.here
    have sz := Ts.size (s := { s1 with heap := h', toks := tk }) T
    have := T.few
    have J : Inv X pins σ H1 { s1 with heap := h', toks := tk } := I1.kept kp
    exact call_len_set ho hex hd T.fits (by omega) ⟨.int (L.length : Nat), H1, J.tok _, ⟨_, by rw [sz]⟩, h1 L T.one g.nodup⟩
  rcases hq with hq | hq
  · obtain ⟨its, rv, pl, hz⟩ := I1.list hq
    exact set_listS ks (I1.ok.hd hc) pl.isList (by simpa using rv) few (by omega) fun h' tk L es ep t T g kp => PyProof.Rows.args_nil (next h' tk L es ep t T g kp)
  · obtain ⟨its, rv, pl, hz⟩ := I1.tuple hq
    exact set_tupleS ks (I1.ok.hd hc) pl (by simpa using rv) few (by omega) fun h' tk L es ep t T g kp => PyProof.Rows.args_nil (next h' tk L es ep t T g kp)
end
end WS

set_option Elab.async false
set_option linter.all false
set_option maxRecDepth 100000
set_option maxHeartbeats 4000000
/-! PI8: sets of letters by data; [e for x in .. for y in ..]. -/
namespace PD
open PySem PySem.Spec PyProof.Rows L2
def slt (x y : Str) : Prop := x.cps.toList < y.cps.toList
/-- ys are the texts of xs, once each, in order -/
structure OrdS (xs ys : List Str) : Prop where
  srt : ys.Pairwise slt
  mem : ∀ k, k ∈ ys ↔ k ∈ xs
theorem slt_asym {x y : Str} (h : slt x y) (g : slt y x) : False := List.lt_irrefl _ (List.lt_trans h g)
theorem ordS_unique : ∀ {os us : List Str}, os.Pairwise slt → us.Pairwise slt → (∀ k, k ∈ os ↔ k ∈ us) → os = us
  | [], [], _, _, _ => rfl
  | [], u :: us, _, _, h => absurd ((h u).mpr List.mem_cons_self) (by simp)
  | o :: os, [], _, _, h => absurd ((h o).mp List.mem_cons_self) (by simp)
  | o :: os, u :: us, a, b, h => by
    obtain ⟨a1, a2⟩ := List.pairwise_cons.mp a
    obtain ⟨b1, b2⟩ := List.pairwise_cons.mp b
    have e : o = u := by
      rcases List.mem_cons.mp ((h o).mp List.mem_cons_self) with e | m
      · exact e
      · rcases List.mem_cons.mp ((h u).mpr List.mem_cons_self) with e | m'
        · exact e.symm
        · exact (slt_asym (b1 o m) (a1 u m')).elim
    subst e
    have no1 : o ∉ os := fun m => slt_asym (a1 o m) (a1 o m)
    have no2 : o ∉ us := fun m => slt_asym (b1 o m) (b1 o m)
    rw [ordS_unique a2 b2 fun k => ⟨fun m => ?_, fun m => ?_⟩]
    · rcases List.mem_cons.mp ((h k).mp (List.mem_cons_of_mem _ m)) with e | m'
      · subst e; exact absurd m no1
      · exact m'
    · rcases List.mem_cons.mp ((h k).mpr (List.mem_cons_of_mem _ m)) with e | m'
      · subst e; exact absurd m no2
      · exact m'
theorem OrdS.unique {xs os us : List Str} (a : OrdS xs os) (b : OrdS xs us) : os = us := ordS_unique a.srt b.srt fun k => (a.mem k).trans (b.mem k).symm
theorem OrdS.nodup {xs os : List Str} (a : OrdS xs os) : os.Nodup := a.srt.imp fun {x y} h e => by rw [e] at h; exact slt_asym h h
theorem ordT {us ws : List Str} (nd : us.Nodup) (h : ∀ k, k ∈ us ↔ k ∈ ws) : OrdS ws (WS.lexT us) := by
  have tl : PySem.W.TotalLe (PySem.W.dataLe false fun x : Str => PyData.str x) := PySem.W.sortLe_total _ _ _
  have pm : (WS.lexT us).Perm us := List.mergeSort_perm _ _
  refine ⟨?_, fun k => pm.mem_iff.trans (h k)⟩
  refine ((PySem.W.sort_pairwise tl us).and (pm.nodup_iff.mpr nd)).imp fun {a b} ⟨h1, h2⟩ => ?_
  rw [PySem.W.dataLe_eq] at h1
  have h3 : PySem.W.dataLt (.str b) (.str a) = false := by simpa using h1
  rw [PySem.W.dataLt_str] at h3
  rcases str_tri h2 with q | q
  · exact q
  · exact absurd q (of_decide_eq_false h3)
section
variable {z : Zp} {ρ : List (Option D)} {P : D → Prop} {PL : List D → Prop} {te : TE} {K : PySem.W.Frag}
theorem strs_at {hs : Addr → Prop} {H1 : Hp} {x : V} {d : D} {xs : List Str} (he : d = .lst (xs.map D.str) ∨ d = .tup (xs.map D.str)) (rx : R z (hid z hs H1) x d) : ∃ l, x = V.ref l ∧ (SqL K H1 l (xs.map V.str) ∨ SqT K H1 l (xs.map V.str)) := by
  rcases he with rfl | rfl
  · cases rx with
    | lst h1 h2 =>
      have e := ra_strs _ _ h2
      subst e
      exact ⟨_, rfl, .inl (.inl (.inl (hid_sub _ _ h1)))⟩
  · cases rx with
    | tup h1 h2 =>
      have e := ra_strs _ _ h2
      subst e
      exact ⟨_, rfl, .inr (.inl (.inl (hid_sub _ _ h1)))⟩
theorem n_sortSetS (h : E1 z te ρ fun d => ∃ xs : List Str, (d = .lst (xs.map D.str) ∨ d = .tup (xs.map D.str)) ∧ xs.length < 4000 ∧ ∀ ys, OrdS xs ys → PL (ys.map D.str)) : E1N z (WS.tSortSetS K te) ρ PL := fun hs σ H p s Q w =>
  h hs σ H p s _ fun x H1 d e1 p1 rx ⟨xs, he, hl, q⟩ => by
    obtain ⟨l, rfl, hq⟩ := strs_at (K := K) he rx
    exact ⟨l, xs, rfl, hq, hl, fun L1 b nd mem nb => new_n w e1 p1 (strs_ra _) (q _ (ordT nd mem)) b nb⟩
theorem e_lenSetS (h : E1 z te ρ fun d => ∃ xs : List Str, (d = .lst (xs.map D.str) ∨ d = .tup (xs.map D.str)) ∧ xs.length < 4000 ∧ ∀ ys : List Str, ys.Nodup → (∀ k, k ∈ ys ↔ k ∈ xs) → P (.int (ys.length : Nat))) : E1 z (WS.tLenSetS K te) ρ P := fun hs σ H p s Q w =>
  h hs σ H p s _ fun x H1 d e1 p1 rx ⟨xs, he, hl, q⟩ => by
    obtain ⟨l, rfl, hq⟩ := strs_at (K := K) he rx
    exact ⟨l, xs, rfl, hq, hl, fun L1 nd mem => (w.back e1).here p1 (.int _) (q _ nd mem)⟩
end
end PD

set_option Elab.async false
set_option linter.all false
set_option maxRecDepth 100000
set_option maxHeartbeats 4000000
/-! PI9: [e for x in .. for y in ..] by data. -/
namespace PD
open PySem PySem.Spec PyProof.Rows L2
section
variable {z : Zp} {ρ : List (Option D)} {PL : List D → Prop} {te : TE} {hs : Addr → Prop}
/-- Dl holds a list under way: all but the pot and Dl as in H1 -/
structure Way (z : Zp) (hs : Addr → Prop) (Dl : Addr) (H1 H : Hp) (ad : List D) : Prop where
  ex : ExZ z H1 H
  ok : Ok z (fun a => hs a ∨ a = Dl) H
  at_ : ∃ av, H Dl = some (.lst av) ∧ RA z (hid z (fun a => hs a ∨ a = Dl) H) av ad
theorem Way.next {Dl : Addr} {H1 H H' : Hp} {ad : List D} (w : Way z hs Dl H1 H ad) (n : ¬ z.at Dl) (e : ExZ z H H') (p : Ok z (fun a => hs a ∨ a = Dl) H') : Way z hs Dl H1 H' ad := by
  obtain ⟨av, h, r⟩ := w.at_
  exact ⟨w.ex.trans e, p, av, e Dl _ n h, RA.mono (exz_hid e) _ _ r⟩
/-- one more -/
theorem Way.push {Dl : Addr} {H1 H : Hp} {ad : List D} (w : Way z hs Dl H1 H ad) (n : ¬ z.at Dl) (nD : H1 Dl = none) {v : V} {d : D} (r : R z (hid z (fun a => hs a ∨ a = Dl) H) v d) (hl : ad.length < sizeLine) :
    ∃ av, H Dl = some (.lst av) ∧ av.length < sizeLine ∧ Way z hs Dl H1 (upd H Dl (.lst (av ++ [v]))) (ad ++ [d]) := by
  obtain ⟨av, h, ra⟩ := w.at_
  have he : hid z (fun a => hs a ∨ a = Dl) (upd H Dl (.lst (av ++ [v]))) = hid z (fun a => hs a ∨ a = Dl) H := hid_upd (.inr (.inr rfl))
  refine ⟨av, h, by rw [ra.length]; exact hl, fun a o m ha => ?_, ⟨w.ok.pot.upd n h, fun a ha => ?_⟩, av ++ [v], upd_same, by rw [he]; exact ra.append (.cons r .nil)⟩
  · rw [upd_ne (ne_of_none ha nD)]
    exact w.ex a o m ha
  · obtain ⟨n1, o, ho, nt⟩ := w.ok.tr a ha
    by_cases e : a = Dl
    · subst e
      exact ⟨n1, _, upd_same, fun _ h => by cases h⟩
    · exact ⟨n1, o, by rw [upd_ne e]; exact ho, nt⟩
theorem n_lc2 {wi wi1 : TI} {g g1 : TG} {vs vs1 : List Nat} (h : EI z wi ρ fun n f => n ≤ 1000 ∧ ∃ W : Nat → List D → Prop, W 0 [] ∧ (∀ i acc, i < n → W i acc → GE z vs g (wipeD ρ vs) (f i) fun ρ' => EI z wi1 ρ' fun n1 f1 => n1 ≤ 1000 ∧ ∃ W1 : Nat → List D → Prop, W1 0 acc ∧
      (∀ j acc', j < n1 → W1 j acc' → GE z vs1 g1 (wipeD ρ' vs1) (f1 j) fun ρ2 => E1 z te ρ2 fun d => W1 (j + 1) (acc' ++ [d])) ∧ ∀ acc', W1 n1 acc' → W (i + 1) acc') ∧ ∀ acc, W n acc → PL acc) :
    E1N z (tLc2 wi g tYes wi1 g1 tYes te vs vs1) ρ PL := fun hs σ H p s Q w =>
  h hs σ H p s _ fun J H1 n f e1 p1 wk ⟨hn, W, w0, w1, w2⟩ => by
    intro Dl nD
    obtain ⟨o1, o2⟩ := p1.off nD
    let hs' : Addr → Prop := fun a => hs a ∨ a = Dl
    have s1 := s.mono (exz_hid (hs := hs) e1)
    have k1000 : ∀ {i j : Nat}, i < 1000 → j < 1000 → 1000 * i + j < sizeLine := fun hi hj => by rw [sizeLine_eq]; omega
    have st0 : Way z hs Dl H1 (upd H1 Dl (.lst [])) [] := ⟨ExZ.new nD, ⟨(p1.new nD).pot, fun a ha => by
      rcases ha with ha | ha
      · exact (p1.new nD).tr a ha
      · subst ha
        exact ⟨o1, _, upd_same, fun _ h => by cases h⟩⟩, [], upd_same, .nil⟩
    have off : ∀ {H' : Hp} {ad : List D}, Way z hs Dl H1 H' ad → ∀ a o, ¬ z.at a → ¬ hs a → H1 a = some o → H' a = some o ∧ ¬ hs' a := fun w a o n1 n2 ha => ⟨w.ex a o n1 ha, by
      rintro (q | q)
      · exact n2 q
      · rw [q, nD] at ha; cases ha⟩
    refine ⟨fun i m H' => m = n - i ∧ i ≤ n ∧ ∃ ad, Way z hs Dl H1 H' ad ∧ ad.length ≤ 1000 * i ∧ W i ad, ⟨n, rfl, Nat.zero_le _, [], st0, Nat.le_refl _, w0⟩, ?_⟩
    rintro i m H' ⟨rfl, hi, ad, way, hl, hw⟩
    obtain ⟨q1, q2⟩ := wk hs' H' way.ok (off way) i
    by_cases hlt : i < n
    · obtain ⟨g1', g2⟩ := q1 hlt
      refine .inr ⟨g1', fun H2 => ∃ ad, Way z hs Dl H1 H2 ad ∧ ad.length ≤ 1000 * (i + 1) ∧ W (i + 1) ad, fun H2 q => ⟨n - (i + 1), by omega, rfl, hlt, q⟩, fun x H2 y => ?_⟩
      obtain ⟨xe, ok2, r⟩ := g2 x H2 y
      have way2 := way.next o1 (H' := H2) (ExZ.of xe) ok2
      have s2 : SR z (hid z hs' H2) (wipe σ vs) (wipeD ρ vs) := (s1.mono fun a o ha => by
        obtain ⟨m1, m2, ha⟩ := hid_some ha
        obtain ⟨k1, k2⟩ := off way2 a o m1 m2 ha
        rw [hid_ne m1 k2]
        exact k1).wipe vs
      refine w1 i ad hlt hw hs' _ H2 ok2 s2 x r _ fun σ3 H3 ρ3 e3 p3 s3 hwp q3 => ⟨by rw [hwp, wipe_idem], ?_⟩
      have way3 := way2.next o1 e3 p3
      unfold tYes
      refine iteT ?_
      refine q3 hs' σ3 H3 p3 s3 _ fun J1 H4 n1 f1 e4 p4 wk1 ⟨hn1, W1, v0, v1, v2⟩ => ?_
      have way4 := way3.next o1 e4 p4
      have s4 := s3.mono (exz_hid (hs := hs') e4)
      refine ⟨fun j k H' => k = n1 - j ∧ j ≤ n1 ∧ ∃ ad', (∀ a o, ¬ z.at a → ¬ hs' a → H4 a = some o → H' a = some o ∧ ¬ hs' a) ∧ Way z hs Dl H1 H' ad' ∧ ad'.length ≤ 1000 * i + j ∧ W1 j ad', ⟨n1, rfl, Nat.zero_le _, ad, ?_, way4, hl, v0⟩, ?_⟩
      · exact fun a o _ m2 ha => ⟨ha, m2⟩
      rintro j k H5 ⟨rfl, hj, ad', e5, way5, hl', hw1⟩
      obtain ⟨t1, t2⟩ := wk1 hs' H5 way5.ok e5 j
      by_cases hjt : j < n1
      · obtain ⟨u1, u2⟩ := t1 hjt
        refine .inr ⟨u1, fun H6 => ∃ ad', (∀ a o, ¬ z.at a → ¬ hs' a → H4 a = some o → H6 a = some o ∧ ¬ hs' a) ∧ Way z hs Dl H1 H6 ad' ∧ ad'.length ≤ 1000 * i + (j + 1) ∧ W1 (j + 1) ad', fun H6 q => ⟨n1 - (j + 1), by omega, rfl, hjt, q⟩, fun x6 H6 y6 => ?_⟩
        obtain ⟨xe6, ok6, r6⟩ := u2 x6 H6 y6
        have way6 := way5.next o1 (H' := H6) (ExZ.of xe6) ok6
        have e6 : ∀ a o, ¬ z.at a → ¬ hs' a → H4 a = some o → H6 a = some o ∧ ¬ hs' a := fun a o m1 m2 ha => ⟨xe6 a o (e5 a o m1 m2 ha).1, m2⟩
        have s6 : SR z (hid z hs' H6) (wipe σ3 vs1) (wipeD ρ3 vs1) := (s4.mono (R.off e6)).wipe vs1
        refine v1 j ad' hjt hw1 hs' _ H6 ok6 s6 x6 r6 _ fun σ7 H7 ρ7 e7 p7 s7 hw7 q7 => ⟨by rw [hw7, wipe_idem], ?_⟩
        refine iteT ?_
        refine q7 hs' σ7 H7 p7 s7 _ fun v8 H8 d8 e8 p8 r8 q8 => ?_
        have way8 := (way6.next o1 e7 p7).next o1 e8 p8
        have ll : ad'.length < sizeLine := Nat.lt_of_le_of_lt hl' (k1000 (by omega) (by omega))
        obtain ⟨av, h1, h2, way9⟩ := way8.push o1 nD r8 ll
        refine ⟨av, h1, h2, ad' ++ [d8], fun a o m1 m2 ha => ⟨?_, m2⟩, way9, by rw [List.length_append]; show ad'.length + 1 ≤ _; omega, q8⟩
        rw [upd_ne (fun e => m2 (.inr e))]
        exact e8 a o m1 (e7 a o m1 (e6 a o m1 m2 ha).1)
      · have : j = n1 := by omega
        subst this
        exact .inl ⟨t2 (Nat.le_refl _), ad', way5, by omega, v2 ad' hw1⟩
    · have : i = n := by omega
      subst this
      have n0 : H Dl = none := by
        cases h0 : H Dl with
        | none => rfl
        | some o => rw [e1 Dl o o1 h0] at nD; cases nD
      obtain ⟨av, hD, ra⟩ := way.at_
      exact .inl ⟨q2 (Nat.le_refl _), w Dl av H' ad (e1.trans way.ex) ⟨way.ok.pot, fun a ha => way.ok.tr a (.inl ha)⟩ n0 hD ra (w2 ad hw)⟩
end
end PD

set_option Elab.async false
set_option linter.all false
set_option maxRecDepth 100000
set_option maxHeartbeats 4000000
/-! PI10: operators of own classes by data: !=, |, &, //, len, in, []. -/
namespace PD
open PySem PySem.Spec PyProof.Rows L2
theorem sub_oo : isSubtype (.type "object") (.type "object") = pure true := by rw [isSubtype_type]; kernel_rfl
section
variable {prog : Program} {w : World} {A : Around} {E : Value → Shared → Prop} {s : Shared} {K : PySem.W.Frag} {x C L f : Addr} {h₀ : Heap} {m : Str → Option Value} {ox : Obj} {od : Option Obj} {b tb : Value}
theorem ne_K {Q : Value → Shared → Prop} (hu : A.units + 1 < cLine) (F : Fr h₀ L s.heap m) (X₀ : K.In h₀) (I : PySem.W.InstAt s.heap x ox C od) (hb : PySem.W.Looks (model prog w) s.heap (typeOf b) tb) (hn : PySem.W.notFirst K C tb = true)
    (hs : PySem.W.findIn K (.ref C) "__eq__" = some (some (.ref f))) (hf : PySem.W.isFn K (.ref f) = true) (hne : PySem.W.findIn K (.ref C) "__ne__" = some (some (.builtin "object.__ne__"))) (ho : PySem.W.mroIn K C (.type "object") = some true)
    (h : wpAny (model prog w) A.in1 (call (.ref f) [.ref x, b]) (fun r s' => ∃ c, r = .bool c ∧ Q (.bool (!c)) s') E s) : wpAny (model prog w) A (richCompare .NotEq (.ref x) b) Q E s := by
  have X := X₀.keeps F.keep
  have SF := PySem.F.slot_object_ne
  have body : wpAny (model prog w) A.in1 (Builtin.«object.__ne__» ⟨[.ref x, b], []⟩) (fun fin s' => ∃ c, fin = .done (.ret (.bool (!c))) ∧ Q (.bool (!c)) s') E s := by
    unfold Builtin.«object.__ne__»
    refine wpAny_bind (m := slotArgs "__ne__" 1 ⟨[.ref x, b], []⟩) (wpAny_pure ?_)
    refine wpAny_bind (wpAny_cRoomFor (show A.in1.units < cLine from hu) ?_)
    refine wpAny_bind (PySem.W.ifBound_K X I hs hf (wpAny_mono h (fun r s' hr => ?_) fun _ _ e => e))
    obtain ⟨c, rfl, q⟩ := hr
    refine wpAny_bind (m := truthy (.bool c)) (wpAny_truthy_bool ?_)
    exact wpAny_pure ⟨c, rfl, q⟩
  have one : wpAny (model prog w) A (tryCompare (.ref x) (cmpInfo .NotEq).2.1 b) (fun r s' => ∃ v, r = some v ∧ Q v s') E s := by
    unfold tryCompare
    refine wpAny_bind ?_
    simp only [callSpecialIfBound?, bindSpecialIfBound?]
    refine wpAny_holding (wpAny_bind (wpAny_bind (wpAny_bind (I.type.here ((PySem.W.looks_findIn X hne).here ?_)))))
    have fin : wpAny (model prog w) A (call (.builtin "object.__ne__") ([.ref x] ++ [b]) >>= fun v => pure (some v)) (fun r s' => wpAny (model prog w) A (match r with | some .notImplemented | none => pure none | some v => pure (some v)) (fun r s' => ∃ v, r = some v ∧ Q v s') E s') E s := by
      refine wpAny_bind (wpAny_call (codeAny_call_builtin SF.plain PySem.F.cmpEntry_ne (PySem.W.check_slot PySem.F.cmpKind_ne PySem.F.cmpSplit_ne (I.type.andThen (PySem.W.looks_mroIn X ho)) (PySem.F.cmpArgs_ne _ _) ?_)))
      refine wpAny_mono body (fun r s' hr => ?_) fun _ _ e => e
      obtain ⟨c, rfl, q⟩ := hr
      first | exact wpAny_pure (wpAny_pure ⟨_, rfl, q⟩) | exact wpAny_pure (wpAny_pure (wpAny_pure ⟨_, rfl, q⟩)) | exact ⟨_, rfl, wpAny_pure (wpAny_pure ⟨_, rfl, q⟩)⟩
    have bnd : PySem.W.Looks (model prog w) s.heap (bindSpecial (.builtin "object.__ne__") (.ref x)) (.builtin "object.__ne__", [.ref x]) := .of_pure (SF.bind _)
    refine wpAny_bind (wpAny_askSetting (wpAny_ite ?_))
    split
    · exact wpAny_bind (bnd.here (wpAny_pure (by exact fin)))
    · exact wpAny_tryCatch (wpAny_bind (bnd.here (wpAny_pure (by exact fin))))
  unfold richCompare
  simp only [oneThing_ref]
  refine wpAny_holding (wpAny_bind (wpAny_cRoomFor (Nat.lt_of_succ_lt hu) ?_))
  refine wpAny_bind (I.type.here (wpAny_bind (hb.here ?_)))
  split
  · rename_i q
    have e : PySem.W.subIn K tb (.ref C) = some false := by
      rcases Bool.or_eq_true_iff.mp hn with e | e
      · rw [beq_iff_eq.mp e] at q; simp at q
      · exact beq_iff_eq.mp e
    refine wpAny_bind ((PySem.W.looks_subIn X e).here ?_)
    simp only [Bool.false_eq_true, if_false]
    refine wpAny_bind (wpAny_mono one (fun r s' z => ?_) fun _ _ e => e)
    obtain ⟨v, rfl, hq⟩ := z
    exact wpAny_pure hq
  · refine wpAny_bind (wpAny_pure ?_)
    simp only [Bool.false_eq_true, if_false]
    refine wpAny_bind (wpAny_mono one (fun r s' z => ?_) fun _ _ e => e)
    obtain ⟨v, rfl, hq⟩ := z
    exact wpAny_pure hq
end
/-! ### rules -/
def InsA (H : Hp) (C : Addr) (x : V) : Prop := ∃ (a dx : Addr) (fs : List (Str × V)), x = .ref a ∧ H a = some (.ins C dx fs)
def rNeO (K : PySem.W.Frag) (C : Addr) (sp : Sp) (E : XK) : R2 := fun x y H Q => InsA H C x ∧ (∃ t, TyX K H y t ∧ PySem.W.notFirst K C t = true) ∧ sp [x, y] H (fun v H' => ∃ b, v = .bl b ∧ Q (.bl (!b)) H') E
/-- x op y, both of the class -/
def rBinO (K : PySem.W.Frag) (C : Addr) (sp : Sp) (E : XK) : R2 := fun x y H Q => InsA H C x ∧ TyX K H y (.ref C) ∧ sp [x, y] H (fun v H' => (∃ a, v = .ref a) ∧ Q v H') E
/-- x op y, y a text -/
def rBinT (C : Addr) (sp : Sp) (E : XK) : R2 := fun x y H Q => InsA H C x ∧ (∃ b, y = .str b) ∧ sp [x, y] H (fun v H' => (∃ a, v = .ref a) ∧ Q v H') E
def rLenO (C : Addr) (sp : Sp) (E : XK) : List V → Hp → VK → Prop := fun xs H Q => ∃ x, xs = [x] ∧ InsA H C x ∧ sp [x] H (fun v H' => ∃ n : Nat, v = .int n ∧ n < 2 ^ 62 ∧ Q (.int n) H') E
/-- x in y, y of the class -/
def rInO (C : Addr) (sp : Sp) (E : XK) : R2 := fun x y H Q => InsA H C y ∧ sp [y, x] H (fun v H' => ∃ b, v = .bl b ∧ Q (.bl b) H') E
def rNotInO (C : Addr) (sp : Sp) (E : XK) : R2 := fun x y H Q => InsA H C y ∧ sp [y, x] H (fun v H' => ∃ b, v = .bl b ∧ Q (.bl (!b)) H') E
section
variable {X : Cx} {CX : CXT} {k : Nat} {C f : Addr} {fd : FuncData} {ps : List Str} {sp : Sp} {E : XK}
theorem run_fn1 {pins : List (Addr × Obj)} {σ : L2.St} {H : Hp} {s : Shared} {Q : VK} {us : List Value} {vs : List V} (F : FnOk X.prog X.w X.K X.mg X.base CX k f fd ps sp) (hr : Room (k + 1) X.A) (hb : Binds X.K fd ps []) (hx : Passes CX X E)
    (I : Inv X pins σ H s) (r : Vals vs us) (h : sp vs H Q E) : wpAny (model X.prog X.w) X.A.in1 (call (.ref f) us) (EP X pins σ Q) X.xe s := by
  have hl : us.length = ps.length := by rw [← r.length]; exact F.len _ _ _ _ h
  have hB : BindsTo s fd ⟨us, []⟩ (ps.zip us) := by
    have e := hb s us I.kIn (by simpa using hl)
    simpa using e
  refine wpAny_call (codeAny_mono (F.run X.A.in1 X.stack s H ⟨us, []⟩ us vs Q E hr.in1 I.env0.in1 hB r h) fun r s' hq => ?_)
  cases r with
  | error e => exact hx pins σ H s e s' I hq
  | ok fl =>
    cases fl with
    | ret u => exact I.after hq
    | next => exact False.elim hq
    | brk => exact False.elim hq
    | cont => exact False.elim hq
theorem op_neO (F : FnOk X.prog X.w X.K X.mg X.base CX k f fd ps sp) (hr : Room (k + 1) X.A) (hb : Binds X.K fd ps []) (hs : PySem.W.findIn X.K (.ref C) "__eq__" = some (some (.ref f))) (hf : PySem.W.isFn X.K (.ref f) = true)
    (hne : PySem.W.findIn X.K (.ref C) "__ne__" = some (some (.builtin "object.__ne__"))) (ho : PySem.W.mroIn X.K C (.type "object") = some true) (hx : Passes CX X E) : OpR X (compareOp .NotEq) (rNeO X.K C sp E) := by
  intro pins s σ H x y v u Q I rx ry ⟨⟨a, dx, fs, ex, ea⟩, ⟨t, ty, hn⟩, hsp⟩
  subst ex
  cases rx
  obtain ⟨mA, J, _⟩ := ins_get I.hok ea
  obtain ⟨od, J, _⟩ := J.look
  obtain ⟨P, Z, p, _⟩ := kit_of I ry ty
  obtain ⟨m, hF⟩ := I.fr
  refine ne_K (tb := t) (by have := hr.un; omega) hF I.ok.mod.kin J (Z.ty _ _ I.kIn p) hn hs hf hne ho ?_
  refine wpAny_mono (run_fn1 (us := [.ref a, u]) (vs := [.ref a, y]) F hr hb hx I (.cons rfl (.cons ry .nil)) hsp) (fun r s' q => ?_) fun _ _ q => q
  obtain ⟨w, H', I', rw', b, ew, q⟩ := q
  subst ew
  cases rw'
  exact ⟨b, rfl, .bl (!b), H', I', rfl, q⟩
theorem op_binO {op : Operator} (F : FnOk X.prog X.w X.K X.mg X.base CX k f fd ps sp) (hr : Room k X.A) (hb : Binds X.K fd ps []) (hs : PySem.W.findIn X.K (.ref C) (PySem.dunder op.info.2) = some (some (.ref f))) (hf : PySem.W.isFn X.K (.ref f) = true)
    (hc : PySem.W.selfFirst X.K C = true) (hx : Passes CX X E) : OpR X (binaryOp op) (rBinO X.K C sp E) := by
  intro pins s σ H x y v u Q I rx ry ⟨⟨a, dx, fs, ex, ea⟩, ty, hsp⟩
  subst ex
  cases rx
  obtain ⟨mA, J, _⟩ := ins_get I.hok ea
  obtain ⟨od, J, _⟩ := J.look
  obtain ⟨P, Z, p, _⟩ := kit_of I ry ty
  obtain ⟨m, hF⟩ := I.fr
  refine PySem.W.binop_K hF I.ok.mod.kin J (Z.ty _ _ I.kIn p) hc hs hf ?_
  refine wpAny_mono (run_fn (us := [.ref a, u]) (vs := [.ref a, y]) F hr hb .nil hx I (.cons rfl (.cons ry .nil)) hsp) (fun r s' q => ?_) fun _ _ q => q
  obtain ⟨w, H', I', rw', ⟨b, ew⟩, q⟩ := q
  subst ew
  cases rw'
  exact ⟨.ref b, H', I', rfl, q⟩
theorem op_binT {op : Operator} {fo ro rc : Option Value} (F : FnOk X.prog X.w X.K X.mg X.base CX k f fd ps sp) (hr : Room k X.A) (hb : Binds X.K fd ps []) (hs : PySem.W.findIn X.K (.ref C) (PySem.dunder op.info.2) = some (some (.ref f))) (hf : PySem.W.isFn X.K (.ref f) = true)
    (hc : PySem.W.selfFirst X.K C = true) (h0 : PySem.W.findIn X.K (.ref C) (dunderR op.info.2) = some none) (h1 : PySem.W.findIn X.K (.type "str") (PySem.dunder op.info.2) = some fo) (h2 : PySem.W.findIn X.K (.type "str") (dunderR op.info.2) = some ro)
    (hsub : PySem.W.subIn X.K (.type "str") (.ref C) = some false) (hx : Passes CX X E) : OpR X (binaryOp op) (rBinT C sp E) := by
  intro pins s σ H x y v u Q I rx ry ⟨⟨a, dx, fs, ex, ea⟩, ⟨b, ey⟩, hsp⟩
  subst ex ey
  cases rx
  obtain ⟨tk, rfl⟩ := (show ∃ t, u = Value.str b t from ry)
  obtain ⟨mA, J, _⟩ := ins_get I.hok ea
  obtain ⟨od, J, _⟩ := J.look
  obtain ⟨m, hF⟩ := I.fr
  refine PySem.W.ksp_binT (T := "str") hF I.ok.mod.kin J rfl hc hs hf h0 (.inl rfl) h1 h2 hsub ?_
  refine wpAny_mono (run_fn (us := [.ref a, .str b tk]) (vs := [.ref a, .str b]) F hr hb .nil hx I (.cons rfl (.cons ⟨tk, rfl⟩ .nil)) hsp) (fun r s' q => ?_) fun _ _ q => q
  obtain ⟨w, H', I', rw', ⟨c, ew⟩, q⟩ := q
  subst ew
  cases rw'
  exact ⟨.ref c, H', I', rfl, q⟩
theorem call_lenO (F : FnOk X.prog X.w X.K X.mg X.base CX k f fd ps sp) (hr : Room (k + 1) X.A) (hb : Binds X.K fd ps []) (hs : PySem.W.findIn X.K (.ref C) "__len__" = some (some (.ref f))) (hf : PySem.W.isFn X.K (.ref f) = true) (hx : Passes CX X E) : CallR X (.builtin "len") (rLenO C sp E) := by
  intro pins s σ H xs us Q I r ⟨x, ex, ⟨a, dx, fs, ea', ea⟩, hsp⟩
  subst ex ea'
  cases r with
  | cons r rs =>
    cases rs
    cases r
    obtain ⟨mA, J, _⟩ := ins_get I.hok ea
    obtain ⟨od, J, _⟩ := J.look
    obtain ⟨m, hF⟩ := I.fr
    refine PySem.W.len_K hF I.ok.mod.kin J hs hf ?_
    refine wpAny_mono (run_fn1 (us := [.ref a]) (vs := [.ref a]) F hr hb hx I (.cons rfl .nil) hsp) (fun r s' q => ?_) fun _ _ q => q
    obtain ⟨w, H', I', rw', n, ew, hn, q⟩ := q
    subst ew
    obtain ⟨tk, rfl⟩ := (show ∃ t, r = Value.int n t from rw')
    exact ⟨⟨by omega, by omega⟩, .int n, H', I'.tok _, ⟨_, rfl⟩, q⟩
theorem op_inO (F : FnOk X.prog X.w X.K X.mg X.base CX k f fd ps sp) (hr : Room k X.A) (hb : Binds X.K fd ps []) (hs : PySem.W.findIn X.K (.ref C) "__contains__" = some (some (.ref f))) (hf : PySem.W.isFn X.K (.ref f) = true) (hx : Passes CX X E) : OpR X (compareOp .In) (rInO C sp E) := by
  intro pins s σ H x y v u Q I rx ry ⟨⟨a, dx, fs, ex, ea⟩, hsp⟩
  subst ex
  cases ry
  obtain ⟨mA, J, _⟩ := ins_get I.hok ea
  obtain ⟨od, J, _⟩ := J.look
  obtain ⟨m, hF⟩ := I.fr
  refine PySem.W.in_K hF I.ok.mod.kin J hs hf ?_
  refine wpAny_mono (run_fn (us := [.ref a, v]) (vs := [.ref a, x]) F hr hb .nil hx I (.cons rfl (.cons rx .nil)) hsp) (fun r s' q => ?_) fun _ _ q => q
  obtain ⟨w, H', I', rw', b, ew, q⟩ := q
  subst ew
  cases rw'
  exact wpAny_truthy_bool ⟨.bl b, H', I', rfl, q⟩
theorem op_notInO (F : FnOk X.prog X.w X.K X.mg X.base CX k f fd ps sp) (hr : Room k X.A) (hb : Binds X.K fd ps []) (hs : PySem.W.findIn X.K (.ref C) "__contains__" = some (some (.ref f))) (hf : PySem.W.isFn X.K (.ref f) = true) (hx : Passes CX X E) : OpR X (compareOp .NotIn) (rNotInO C sp E) := by
  intro pins s σ H x y v u Q I rx ry ⟨⟨a, dx, fs, ex, ea⟩, hsp⟩
  subst ex
  cases ry
  obtain ⟨mA, J, _⟩ := ins_get I.hok ea
  obtain ⟨od, J, _⟩ := J.look
  obtain ⟨m, hF⟩ := I.fr
  refine PySem.W.notIn_K hF I.ok.mod.kin J hs hf ?_
  refine wpAny_mono (run_fn (us := [.ref a, v]) (vs := [.ref a, x]) F hr hb .nil hx I (.cons rfl (.cons rx .nil)) hsp) (fun r s' q => ?_) fun _ _ q => q
  obtain ⟨w, H', I', rw', b, ew, q⟩ := q
  subst ew
  cases rw'
  exact wpAny_truthy_bool ⟨.bl (!b), H', I', rfl, q⟩
end
/-! ### by data -/
section
variable {z : Zp} {ρ : List (Option D)} {P : D → Prop} {PX' : Addr → List (Str × D) → Prop} {ta tb : TE} {K : PySem.W.Frag} {C : Addr} {Pre : List D → Prop} {Post : List D → D → Prop} {PX : List D → Addr → List (Str × D) → Prop} {E : XK}
theorem insA_of {hs : Addr → Prop} {H : Hp} {x : V} {fs : List (Str × D)} (r : R z (hid z hs H) x (.obj C fs)) : InsA H C x := by
  cases r with
  | obj g1 g2 => exact ⟨_, _, _, rfl, hid_sub _ _ g1⟩
theorem ref_of {hs : Addr → Prop} {H : Hp} {x : V} {C' : Addr} {fs : List (Str × D)} (r : R z (hid z hs H) x (.obj C' fs)) : ∃ a, x = .ref a := by
  cases r with
  | obj g1 g2 => exact ⟨_, rfl⟩
theorem o_neO {d e : D} {t : Value} {fs : List (Str × D)} (hd : d = .obj C fs) (h : TyIs K e t) (hn : PySem.W.notFirst K C t = true) (hp : Pre [d, e]) (hq : ∀ r, Post [d, e] r → ∃ b, r = .bl b ∧ P (.bl (!b))) : O2 z (rNeO K C (spD 2 Pre Post) E) d e P := fun hs x y H p rx ry Q w => by
  subst hd
  refine ⟨insA_of rx, ⟨t, h z hs H _ ry, hn⟩, z, hs, [_, e], rfl, hp, p, .cons rx (.cons ry .nil), fun v H' r e' p' rr pr => ?_⟩
  obtain ⟨b, rfl, q⟩ := hq r pr
  cases rr
  exact ⟨b, rfl, w _ H' _ e' p' (.bl _) q⟩
theorem ex_binO (h : E1 z ta ρ fun d => E1 z tb ρ fun e => ∃ fs, d = .obj C fs ∧ TyIs K e (.ref C) ∧ Pre [d, e] ∧ (∀ r, Post [d, e] r → (∃ C' gs, r = .obj C' gs) ∧ P r) ∧ ∀ C' gs, PX [d, e] C' gs → PX' C' gs) : E1X z (fun E => tOp (rBinO K C (spDX 2 Pre Post PX) E) ta tb) ρ P PX' := fun hs σ H p s E Q w x =>
  h hs σ H p s _ fun u H1 d e1 p1 ru h1 => h1 hs σ H1 p1 (s.mono (exz_hid e1)) _ fun v H2 e e2 p2 rv ⟨fs, hd, ht, hp, hq, hx⟩ => by
    subst hd
    have ru2 := R.mono (exz_hid e2) _ _ ru
    refine ⟨insA_of ru2, ht z hs H2 _ rv, z, hs, [_, e], rfl, hp, p2, .cons ru2 (.cons rv .nil), fun r H3 dr e3 p3 rr pr => ?_, (x.back (e1.trans e2)).imp hx⟩
    obtain ⟨⟨C', gs, rfl⟩, q⟩ := hq dr pr
    exact ⟨ref_of rr, w _ H3 _ ((e1.trans e2).trans e3) p3 rr q⟩
theorem ex_binT (h : E1 z ta ρ fun d => E1 z tb ρ fun e => ∃ fs a, d = .obj C fs ∧ e = .str a ∧ Pre [d, e] ∧ (∀ r, Post [d, e] r → (∃ C' gs, r = .obj C' gs) ∧ P r) ∧ ∀ C' gs, PX [d, e] C' gs → PX' C' gs) : E1X z (fun E => tOp (rBinT C (spDX 2 Pre Post PX) E) ta tb) ρ P PX' := fun hs σ H p s E Q w x =>
  h hs σ H p s _ fun u H1 d e1 p1 ru h1 => h1 hs σ H1 p1 (s.mono (exz_hid e1)) _ fun v H2 e e2 p2 rv ⟨fs, a, hd, he, hp, hq, hx⟩ => by
    subst hd he
    have ru2 := R.mono (exz_hid e2) _ _ ru
    have rv' := rv
    cases rv
    refine ⟨insA_of ru2, ⟨_, rfl⟩, z, hs, [_, _], rfl, hp, p2, .cons ru2 (.cons rv' .nil), fun r H3 dr e3 p3 rr pr => ?_, (x.back (e1.trans e2)).imp hx⟩
    obtain ⟨⟨C', gs, rfl⟩, q⟩ := hq dr pr
    exact ⟨ref_of rr, w _ H3 _ ((e1.trans e2).trans e3) p3 rr q⟩
theorem o_lenO {d : D} {fs : List (Str × D)} (hd : d = .obj C fs) (hp : Pre [d]) (hq : ∀ r, Post [d] r → ∃ n : Nat, r = .int n ∧ n < 2 ^ 62 ∧ P (.int n)) : OC z (rLenO C (spD 1 Pre Post) E) [d] P := fun hs xs H p rs Q w => by
  subst hd
  cases rs with
  | cons r rs =>
    cases rs
    refine ⟨_, rfl, insA_of r, z, hs, [_], rfl, hp, p, .cons r .nil, fun v H' dr e' p' rr pr => ?_⟩
    obtain ⟨n, rfl, hn, q⟩ := hq dr pr
    cases rr
    exact ⟨n, rfl, hn, w _ H' _ e' p' (.int _) q⟩
theorem o_inO {d e : D} {fs : List (Str × D)} (hd : e = .obj C fs) (hp : Pre [e, d]) (hq : ∀ r, Post [e, d] r → ∃ b, r = .bl b ∧ P (.bl b)) : O2 z (rInO C (spD 2 Pre Post) E) d e P := fun hs x y H p rx ry Q w => by
  subst hd
  refine ⟨insA_of ry, z, hs, [_, d], rfl, hp, p, .cons ry (.cons rx .nil), fun v H' r e' p' rr pr => ?_⟩
  obtain ⟨b, rfl, q⟩ := hq r pr
  cases rr
  exact ⟨b, rfl, w _ H' _ e' p' (.bl _) q⟩
theorem o_notInO {d e : D} {fs : List (Str × D)} (hd : e = .obj C fs) (hp : Pre [e, d]) (hq : ∀ r, Post [e, d] r → ∃ b, r = .bl b ∧ P (.bl (!b))) : O2 z (rNotInO C (spD 2 Pre Post) E) d e P := fun hs x y H p rx ry Q w => by
  subst hd
  refine ⟨insA_of ry, z, hs, [_, d], rfl, hp, p, .cons ry (.cons rx .nil), fun v H' r e' p' rr pr => ?_⟩
  obtain ⟨b, rfl, q⟩ := hq r pr
  cases rr
  exact ⟨b, rfl, w _ H' _ e' p' (.bl _) q⟩
end
end PD

set_option Elab.async false
set_option linter.all false
set_option maxRecDepth 100000
set_option maxHeartbeats 4000000
/-! PI11: classmethods, cls(..), __init__ with defaults that are all written. -/
namespace PD
open PySem PySem.Spec PyProof.Rows L2
/-! ### a def with defaults -/
structure FunE (K : PySem.W.Frag) (x qual : Str) (st : Stmt) (f : Addr) (fd : FuncData) : Prop where
  ex : ∃ (oc : Value) (od : Option Addr) (dV kV doc pm : Value) (an : Option Addr) (cdv ct : Value) (osl : Array (Option Value)),
    fd = PySem.W.fnOf x qual (defArgs st) (defBody st) (defScope st) dV kV doc pm an cdv ct ∧ K.lookup f = some ⟨oc, od, .func fd, osl⟩ ∧ PySem.W.codeIn K cdv qual = true
  kp : PySem.W.keepIn K (.ref f) = true
/-- its defaults: n of them, in a tuple -/
def HasD (K : PySem.W.Frag) (fd : FuncData) (n : Nat) : Prop := ∃ (T : Addr) (o : Obj) (its : List Value) (m : Nat), fd.defaults = .ref T ∧ K.lookup T = some o ∧ o.data = .seq its.toArray m ∧ its.length = n
structure MfE (K : PySem.W.Frag) (C : Addr) (m qual : Str) (st : Stmt) (ps : List Str) (f : Addr) (fd : FuncData) : Prop where
  F : FunE K m qual st f fd
  M : Meth K C m f
  b : Binds K fd ps []
theorem FunE.binds {K : PySem.W.Frag} {x qual : Str} {st : Stmt} {f : Addr} {fd : FuncData} {ps : List Str} {n : Nat} (F : FunE K x qual st f fd) (hd : HasD K fd n)
    (h : ∀ (T : Addr) (kV doc pm : Value) (an : Option Addr) (cdv ct : Value) (us its : List Value), us.length = ps.length → its.length = n →
      ∃ k, bindArgs (PySem.W.fnOf x qual (defArgs st) (defBody st) (defScope st) (.ref T) kV doc pm an cdv ct) ⟨us, []⟩ = seqItems? (.ref T) >>= k ∧ k (some its.toArray) = pure (ps.zip us)) : Binds K fd ps [] := by
  obtain ⟨oc, od, dV, kV, doc, pm, an, cdv, ct, osl, rfl, lk, hcd⟩ := F.ex
  obtain ⟨T, o, its, m, e1, lT, oT, hl⟩ := hd
  have e1 : dV = .ref T := e1
  subst e1
  intro s us X hlen
  rw [List.append_nil] at hlen ⊢
  obtain ⟨k, e1, e2⟩ := h T kV doc pm an cdv ct us its hlen hl
  refine BindsTo.of_looks fun M => ?_
  rw [e1]
  exact looks_items X lT oT (.of_pure e2)
theorem FunE.kbn {K : PySem.W.Frag} {x qual : Str} {st : Stmt} {f : Addr} {fd : FuncData} {ps ks : List Str} {n p : Nat} {g : List Value → List Value → List Value} {gV : List V → List V → List V} (F : FunE K x qual st f fd) (hd : HasD K fd n)
    (h : ∀ (T : Addr) (kV doc pm : Value) (an : Option Addr) (cdv ct : Value) (us ws its : List Value), us.length = p → ws.length = ks.length → its.length = n →
      ∃ k, bindArgs (PySem.W.fnOf x qual (defArgs st) (defBody st) (defScope st) (.ref T) kV doc pm an cdv ct) ⟨us, ks.zip ws⟩ = seqItems? (.ref T) >>= k ∧ k (some its.toArray) = pure (ps.zip (g us ws)))
    (rel : ∀ {vs : List V} {us : List Value} {zs : List V} {ws : List Value}, Vals vs us → Vals zs ws → Vals (gV vs zs) (g us ws)) : KBn K fd ps p ks g gV := by
  obtain ⟨oc, od, dV, kV, doc, pm, an, cdv, ct, osl, rfl, lk, hcd⟩ := F.ex
  obtain ⟨T, o, its, m, e1, lT, oT, hl⟩ := hd
  have e1 : dV = .ref T := e1
  subst e1
  refine ⟨fun s us ws X h1 h2 => ?_, rel⟩
  obtain ⟨k, e1, e2⟩ := h T kV doc pm an cdv ct us ws its h1 h2 hl
  refine BindsTo.of_looks fun M => ?_
  rw [e1]
  exact looks_items X lT oT (.of_pure e2)
section
variable {P : Program} {w : World} {K : PySem.W.Frag} {mg : Str → Option Value} {base : Heap} {k : Nat} {f C : Addr} {x qual n0 : Str} {st : Stmt} {fd : FuncData} {N ps : List Str} {n : Nat} {Pre : List D → Prop} {Post : List D → List (Str × D) → Prop} {PX : List D → Addr → List (Str × D) → Prop}
theorem okIE (F : FunE K x qual st f fd) (S : FnScope (n0 :: N) ps (defScope st)) (hn : n + 1 = ps.length)
    (h : ∀ (cdv : Value) (A : Around) (outer : List Env) (s : Shared) (H : Hp) (E : XK), Room k (A.deeper (envOfC qual (defScope st) s.heap.objs.size f cdv)) →
      ∃ t, PSs (cxOf (L2.CX P w) P w K mg base (n0 :: N) qual (defScope st) f cdv A outer s H E) (defBody st) t ∧ ∀ z a ds, ds.length = n → Pre ds → X1 z t (.ob a C [] :: startS N ds) { nx := fun ρ => ∃ fs, ρ[0]? = some (.ob a C fs) ∧ Post ds fs, rt := fun _ => False, px := PX ds, E := E }) :
    FnOk P w K mg base (L2.CX P w) (k + 1) f fd ps (spInit C n Pre Post PX) := by
  obtain ⟨oc, od, dV, kV, doc, pm, an, cdv0, ct, osl, rfl, lk, hcd⟩ := F.ex
  refine fn_of lk hcd S (fun vs H Q E q => by rw [spInit_len vs H Q E q, hn]) (fun A outer s H vs Q E hr q => ?_)
  obtain ⟨t, h1, h2⟩ := h _ A outer s H E hr
  refine ⟨t, h1, ?_⟩
  obtain ⟨z, hs, ds, a, dx, us, rfl, hl, hp, p, na, nh, ha, r, w, xd⟩ := q
  have e1 : ∀ b, (hs b ∨ b = a) ↔ hsO hs [a] b := fun b => by simp [hsO]
  have st : St1 z hs H (L2.start (n0 :: N) (.ref a :: us)) (.ob a C [] :: startS N ds) [a] := {
    ok := p, nd := by simp, off := fun b hb => by
      rw [List.mem_singleton.mp hb]
      exact ⟨na, nh⟩
    ss := by
      have e : L2.start (n0 :: N) (.ref a :: us) = some (.ref a) :: L2.start N us := by
        unfold L2.start
        simp
      rw [e]
      exact .ob ha .nil (ss_start (RA.mono (hid_less fun b hb => (e1 b).mpr hb) _ _ r)) }
  have ex : ∀ {H' : Hp}, (∀ b o, ¬ z.at b → b ∉ [a] → H b = some o → H' b = some o) → ExA z a H H' := fun k b o n nb hb => k b o n (by simpa using nb) hb
  refine h2 z a ds hl hp hs _ H [a] st _ ⟨fun σ' H' ρ' O' e' s' ⟨fs, hf, q⟩ => ?_, fun v H' d k p' r' q => q.elim, fun _ _ _ _ _ _ q => q.elim, fun _ _ _ _ _ _ q => q.elim,
    fun C' fs dd H' vs k p g r q => xd C' fs dd H' vs (ex k) p g r q⟩
  obtain ⟨dx', xs, _, hO, ho, hr'⟩ := s'.ss.owni hf
  refine w H' dx' xs fs (ex e'.keep) s'.ok ho (RF.mono (hid_less fun b hb => ?_) _ _ hr') q
  rcases hb with hb | hb
  · exact .inl hb
  · exact .inr (by rw [hb]; exact hO)
end
/-! ### C.m(..), m a classmethod -/
structure CmP (K : PySem.W.Frag) (C : Addr) (m : Str) (p g : Addr) : Prop where
  r : ClX.CRead K C (.type "type")
  c : ClX.CMet K C (.type "type") m p g
/-- a classmethod of the text -/
structure Cm (K : PySem.W.Frag) (C : Addr) (m qual : Str) (st : Stmt) (ps : List Str) (g : Addr) (fd : FuncData) : Prop where
  F : Fun K m qual st g fd
  c : ∃ p, CmP K C m p g
  b : Binds K fd ps []
def tCMethK (C : Addr) (mk : Nat) (sp : Sp) (gV : List V → List V → List V) (E : XK) (ta : TE) (tk : TA) : TE := fun σ H Q => ta σ H fun x H1 => x = .ref C ∧ tk σ H1 fun zs H2 => zs.length = mk ∧ sp (gV [.ref C] zs) H2 Q E
/-- cls(..), the i-th slot holds the class -/
def tMakeL (i : Nat) (C : Addr) (sp : Sp) (E : XK) (t : TA) : TE := fun σ H Q => σ[i]? = some (some (.ref C)) ∧ tMake C sp [] E t σ H Q
section
variable {X : Cx} {CX : CXT} {k i : Nat} {C g f : Addr} {fd : FuncData} {ps ks : List Str} {sp : Sp} {E : XK} {o e : Expr} {es : List Expr} {x m : Str} {p pos apos : Pos} {ta : TE} {t tk : TA} {kws : List Keyword} {gl : List Value → List Value → List Value} {gV : List V → List V → List V}
theorem pe_cm {pl : Sem Bool} (he : PE X o ta) (c : ∃ p, CmP X.K C m p g) (F : FnOk X.prog X.w X.K X.mg X.base CX k g fd ps sp) (hr : Room k X.A) (hb : Binds X.K fd ps []) (hx : Passes CX X E) (ha : PA X (e :: es) t)
    (hst : starEach (e :: es) X.env = (false, eval e X.env) :: starEach es X.env := by rfl) (hpl : (backTo pos (starEach es X.env)).any (·.1) = false := by rfl)
    (ht : eval (.Call (.Attribute o m apos) (e :: es) [] pos) X.env = (do
      let ov ← eval o X.env
      standAt apos.atName
      let (f, first) ← holding [ov] (getMethod ov m pl)
      callWith pos f first (backTo pos (starEach (e :: es) X.env)) (backToKw pos (keywordEach [] X.env))) := by rfl) :
    PE X (.Call (.Attribute o m apos) (e :: es) [] pos) (ClX.tCMeth C sp E ta t) := by
  obtain ⟨q, c⟩ := c
  exact ClX.pe_cmeth he c.r c.c ((F.raw hb .nil).imp fun vs H Q E h => by rw [List.append_nil]; exact h) hr hx ha hst hpl ht
theorem pe_cmK {pl : Sem Bool} (he : PE X o ta) (c : ∃ p, CmP X.K C m p g) (F : FnOk X.prog X.w X.K X.mg X.base CX k g fd ps sp) (hr : Room k X.A) (hb : KBn X.K fd ps 1 ks gl gV) (hx : Passes CX X E) (hkw : PK X kws tk)
    (hall : (backToKw pos (keywordEach kws X.env)).all (·.1.isSome) = true := by rfl) (hks : (backToKw pos (keywordEach kws X.env)).filterMap (·.1) = ks := by rfl)
    (hpl : ((backTo pos (starEach [] X.env)).any (·.1) || (backToKw pos (keywordEach kws X.env)).any (·.1.isNone)) = false := by rfl)
    (ht : eval (.Call (.Attribute o m apos) [] kws pos) X.env = (do
      let ov ← eval o X.env
      standAt apos.atName
      let (f, first) ← holding [ov] (getMethod ov m pl)
      callWith pos f first (backTo pos (starEach [] X.env)) (backToKw pos (keywordEach kws X.env))) := by rfl) :
    PE X (.Call (.Attribute o m apos) [] kws pos) (tCMethK C ks.length sp gV E ta tk) := by
  refine ⟨fun pins s σ H Q I h => ?_⟩
  obtain ⟨p, c⟩ := c
  refine PySem.W.methodCall_KW (pl := pl) (thn (he.run pins s σ H _ I h) fun u s1 ⟨x, H1, I1, rx, ex, q⟩ => ?_) ht
  subst ex
  obtain rfl : u = Value.ref C := rx
  refine ClX.getmethcm_ok I1 c.r c.c fun s2 I2 => ?_
  refine PySem.W.callWith_of (P := PySem.W.MethP X.K s1.heap.objs.size g (.ref C)) hpl (PySem.W.keeps_M c.c.fi) (PyProof.Rows.evalArgs_kw2_nil hall ?_)
  refine thn (hkw.run pos _ s2 σ H1 _ I2 q) fun ws s3 ⟨zs, H2, I3, rz, l2, q2⟩ => ⟨⟨ClX.pin_at I3, I3.kIn⟩, ?_⟩
  rw [hks]
  refine wpAny_call (PySem.W.method_call (ClX.pin_at I3) ?_)
  have r2 := hb.rel (vs := [.ref C]) (us := [.ref C]) (.cons rfl .nil) rz
  refine codeAny_mono (F.run X.A X.stack s3 H2 ⟨.ref C :: ([] ++ []), ks.zip ws⟩ (gl [.ref C] ws) (gV [.ref C] zs) Q E hr I3.env0 (hb.to s3 [.ref C] ws I3.kIn rfl (rz.length.symm.trans l2)) r2 q2) fun r s' hq => ?_
  cases r with
  | error e => exact hx _ σ H2 s3 e s' I3 hq
  | ok fl =>
    cases fl with
    | ret u => exact ClX.unpinE (I3.after hq)
    | next => exact False.elim hq
    | brk => exact False.elim hq
    | cont => exact False.elim hq
theorem pe_makeL (M : Mk X.K C f) (F : FnOk X.prog X.w X.K X.mg X.base CX k f fd ps sp) (hr : Room (k + 1) X.A) (hN : X.N[i]? = some x) (hv : Vis X.env.scope x) (hb : Binds X.K fd ps []) (hx : Passes CX X E) (ha : PA X (e :: es) t)
    (hdb : (x == ("__debug__" : Str)) = false := by decide) (hcd : (x == ("__classdict__" : Str)) = false := by decide) (he : starEach (e :: es) X.env = (false, eval e X.env) :: starEach es X.env := by rfl) (hpl : (backTo pos (starEach es X.env)).any (·.1) = false := by rfl) :
    PE X (.Call (.Name x p) (e :: es) [] pos) (tMakeL i C sp E t) := by
  refine ⟨fun pins s σ H Q I h => ?_⟩
  obtain ⟨hs, ht⟩ := h
  refine wpAny_Call_Name_kw (thn ((pe_var (pos := p) hN hv hdb hcd).run pins s σ H (fun v H1 => v = .ref C ∧ H1 = H) I ⟨.ref C, hs, rfl, rfl⟩) fun u s1 ⟨v, H1, I1, r1, q1⟩ => ?_)
  obtain ⟨rfl, rfl⟩ := q1
  cases r1
  refine PySem.W.callWith_K (h₀ := X.base) I.ok.mod.kin M.kp (thn (ha.run pos pins s1 σ _ _ I1 ht) fun us s2 ⟨vs, H2, I2, r, q⟩ => ⟨I2.kIn, ?_⟩) he hpl
  exact run_make M F hr hb .nil hx I2 r q
end
section
variable {z : Zp} {ρ : List (Option D)} {P : D → Prop} {PX' : Addr → List (Str × D) → Prop} {ta : TE} {tr tk : TA} {C : Addr} {n : Nat} {Pre : List D → Prop} {Post : List D → D → Prop} {PX : List D → Addr → List (Str × D) → Prop} {PostI : List D → List (Str × D) → Prop}
theorem ex_cm (h : E1 z ta ρ fun d => d = .raw (.ref C) ∧ EA z tr ρ fun ds => ds.length + 1 = n ∧ Pre (d :: ds) ∧ (∀ r, Post (d :: ds) r → P r) ∧ ∀ C' fs, PX (d :: ds) C' fs → PX' C' fs) : E1X z (fun E => ClX.tCMeth C (spDX n Pre Post PX) E ta tr) ρ P PX' := fun hs σ H p s E Q w x =>
  h hs σ H p s _ fun v H1 d e1 p1 rv ⟨hd, h1⟩ => by
    subst hd
    cases rv
    refine ⟨rfl, h1 hs σ H1 p1 (s.mono (exz_hid e1)) _ fun vs H2 ds e2 p2 rs ⟨hn, hp, hq, hx⟩ => ?_⟩
    exact ⟨z, hs, _, by rw [List.length_cons]; exact hn, hp, p2, .cons (.raw _) rs, (w.back (e1.trans e2)).imp hq, (x.back (e1.trans e2)).imp hx⟩
theorem ex_cmK {mk : Nat} {gV : List V → List V → List V} {gD : D → List D → List D} (hg : ∀ {H : Hp} {x : V} {d : D} {zs : List V} {es : List D}, R z H x d → RA z H zs es → RA z H (gV [x] zs) (gD d es))
    (h : E1 z ta ρ fun d => d = .raw (.ref C) ∧ EA z tk ρ fun ds => ds.length = mk ∧ (gD d ds).length = n ∧ Pre (gD d ds) ∧ (∀ r, Post (gD d ds) r → P r) ∧ ∀ C' fs, PX (gD d ds) C' fs → PX' C' fs) : E1X z (fun E => tCMethK C mk (spDX n Pre Post PX) gV E ta tk) ρ P PX' := fun hs σ H p s E Q w x =>
  h hs σ H p s _ fun v H1 d e1 p1 rv ⟨hd, h1⟩ => by
    subst hd
    cases rv
    refine ⟨rfl, h1 hs σ H1 p1 (s.mono (exz_hid e1)) _ fun vs H2 ds e2 p2 rs ⟨hm, hn, hp, hq, hx⟩ => ⟨by rw [rs.length]; exact hm, ?_⟩⟩
    exact ⟨z, hs, _, hn, hp, p2, hg (.raw _) rs, (w.back (e1.trans e2)).imp hq, (x.back (e1.trans e2)).imp hx⟩
theorem ex_makeL {i : Nat} (hi : ρ[i]? = some (some (.raw (.ref C)))) (h : EA z tr ρ fun ds => ds.length = n ∧ Pre ds ∧ (∀ fs, PostI ds fs → P (.obj C fs)) ∧ ∀ C' fs, PX ds C' fs → PX' C' fs) : E1X z (fun E => tMakeL i C (spInit C n Pre PostI PX) E tr) ρ P PX' := fun hs σ H p s E Q w x => by
  obtain ⟨v, hv, r⟩ := s.get hi
  cases r
  exact ⟨hv, ex_make h hs σ H p s E Q w x⟩
theorem kSR_meth {z : Zp} {H : Hp} {x : V} {d : D} {zs : List V} {es : List D} (r : R z H x d) (q : RA z H zs es) : RA z H (kSR [x] zs) (d :: es.reverse) := .cons r (ra_rev q)
/-- .. returned, a call that may raise -/
theorem x_retM {z : Zp} {t : XK → TE} {r : List Sl} {out : Out} (h : E1X z t (r.map Sl.see) out.rt out.px) : X1 z (tRet (t out.E)) r out := fun hs σ H O s F w =>
  h hs σ H s.ok s.sr out.E _ (fun v H2 d e2 p2 r q => w.rt v H2 d (fun a o n _ h => e2 a o n h) p2 r q) (w.xd (ExZ.refl z H) fun C fs q => q)
end
end PD

set_option Elab.async false
set_option linter.all false
set_option maxRecDepth 100000
set_option maxHeartbeats 4000000
/-! PI12: insert and pop at a place, texts sorted, two new lists at once, a teller that returns in its clause. -/
namespace PD
open PySem PySem.Spec PyProof.Rows L2
section
variable {z : Zp} {hs : Addr → Prop} {ρ r : List Sl} {P : D → Prop} {te te2 ta ti : TE} {tr : TA} {K : PySem.W.Frag} {out : Out} {H H1 : Hp} {σ : L2.St} {O : List Addr}
abbrev tIns (K : PySem.W.Frag) (i : Nat) (ti te : TE) : TS := tDrop (tBM K "list" (fun x vs H Q => ∃ (l : Addr) (xs : List V) (i : Int) (y : V), x = .ref l ∧ vs = [.int i, y] ∧ H l = some (.lst xs) ∧ xs.length < sizeLine ∧ 0 ≤ i ∧ i < 2 ^ 63 ∧ Q .non (upd H l (.lst (xs.take i.toNat ++ [y] ++ xs.drop i.toNat)))) (tVar i) (tCons ti (tCons te tNil)))
theorem RA.erase {G : Hp} : ∀ {vs : List V} {ds : List D} (n : Nat), RA z G vs ds → RA z G (vs.eraseIdx n) (ds.eraseIdx n)
  | _, _, _, .nil => .nil
  | _, _, 0, .cons h t => t
  | _, _, n + 1, .cons h t => .cons h (RA.erase n t)
theorem RA.nth {G : Hp} : ∀ {vs : List V} {ds : List D} (n : Nat) {d : D}, RA z G vs ds → ds[n]? = some d → ∃ v, vs[n]? = some v ∧ R z G v d
  | _, _, 0, _, .cons h t, e => by cases e; exact ⟨_, rfl, h⟩
  | _, _, n + 1, _, .cons h t, e => RA.nth n t e
/-- own.insert(i, e) -/
theorem x_insertAt {i : Nat} {ds : List D} (he : ρ[i]? = some (.ow ds)) (hz : ds.length < sizeLine) (h : E1 z ti (ρ.map Sl.see) fun k => E1 z te (ρ.map Sl.dat) fun d => ∃ n : Nat, k = .int n ∧ n < 2 ^ 63 ∧ out.nx (ρ.set i (.ow (ds.take n ++ [d] ++ ds.drop n)))) : X1 z (tIns K i ti te) ρ out := fun hs σ H O s F w => by
  obtain ⟨p, vs, a, b, c, d⟩ := s.ss.own he
  refine ⟨.ref p, a, .inl ⟨rfl, vs, .inl (.inl c)⟩, ?_⟩
  refine s.see h fun u H1 dk e1 s1 rk q => ?_
  refine s1.ev q fun v H2 dd e2 s2 r ⟨n, hk, hn, q2⟩ => ?_
  subst hk
  cases rk
  obtain ⟨p', vs', a', b', c', d'⟩ := s2.ss.own he
  have : p' = p := by
    rw [a] at a'
    have := Option.some.inj (Option.some.inj a')
    cases this
    rfl
  subst this
  refine ⟨p', vs', n, v, rfl, rfl, c', by rw [d'.length]; exact hz, by omega, by omega, ?_⟩
  rw [Int.toNat_natCast]
  obtain ⟨m, s3⟩ := s2.change he a b (((d'.take n).append (.cons r .nil)).append (d'.drop n))
  exact w.nx _ _ _ O ((Nxt.of (e1.trans e2)).trans m) s3 q2
/-- own.append(other.pop(e)) -/
theorem x_appendPop {i j : Nat} {ds es : List D} (hij : i ≠ j) (he : ρ[i]? = some (.ow ds)) (hj : ρ[j]? = some (.ow es)) (hz : ds.length < sizeLine) (h : E1 z ti (ρ.map Sl.see) fun k => ∃ (n : Nat) (d : D), k = .int n ∧ n < 2 ^ 62 ∧ es[n]? = some d ∧ out.nx ((ρ.set j (.ow (es.eraseIdx n))).set i (.ow (ds ++ [d])))) :
    X1 z (tDrop (tBM K "list" rAppend (tVar i) (tCons (tBM K "list" rPopAt (tVar j) (tCons ti tNil)) tNil))) ρ out := fun hs σ H O s F w => by
  obtain ⟨p, vs, a, b, c, d⟩ := s.ss.own he
  refine ⟨.ref p, a, .inl ⟨rfl, vs, .inl (.inl c)⟩, ?_⟩
  obtain ⟨pj, us, aj, bj, cj, dj⟩ := s.ss.own hj
  refine ⟨.ref pj, aj, .inl ⟨rfl, us, .inl (.inl cj)⟩, ?_⟩
  refine s.see h fun u H1 dk e1 s1 rk ⟨n, d0, hk, hn, hd, q⟩ => ?_
  subst hk
  cases rk
  obtain ⟨pj', us', aj', bj', cj', dj'⟩ := s1.ss.own hj
  have : pj' = pj := by
    rw [aj] at aj'
    have := Option.some.inj (Option.some.inj aj')
    cases this
    rfl
  subst this
  obtain ⟨v, hv, rv⟩ := dj'.nth n hd
  have hlt : n < us'.length := by
    rcases Nat.lt_or_ge n us'.length with h | h
    · exact h
    · rw [List.getElem?_eq_none h] at hv
      cases hv
  refine ⟨pj', us', n, n, v, rfl, rfl, cj', by omega, by omega, ?_, hv, ?_⟩
  · unfold seqIndex?
    simp
    omega
  obtain ⟨m, s2⟩ := s1.change hj aj' bj' (dj'.erase n)
  have he2 : (ρ.set j (.ow (es.eraseIdx n)))[i]? = some (.ow ds) := by
    rw [List.getElem?_set_ne (Ne.symm hij)]
    exact he
  obtain ⟨p', vs', a', b', c', d'⟩ := s2.ss.own he2
  have : p' = p := by
    rw [a] at a'
    have := Option.some.inj (Option.some.inj a')
    cases this
    rfl
  subst this
  refine ⟨p', vs', v, rfl, rfl, c', by rw [d'.length]; exact hz, ?_⟩
  have ex : Ex (hid z (hsO hs O) H1) (hid z (hsO hs O) (upd H1 pj' (.lst (us'.eraseIdx n)))) := fun x o h => by
    obtain ⟨m1, m2, h⟩ := hid_some h
    rw [hid_ne m1 m2, upd_ne (by rintro rfl; exact m2 (.inr bj'))]
    exact h
  obtain ⟨m2, s3⟩ := s2.change he2 a' b' (d'.append (.cons (R.mono ex _ _ rv) .nil))
  exact w.nx _ _ _ O (((Nxt.of e1).trans m).trans m2) s3 q
theorem rising_slt : ∀ {x : Str} {l : List Str}, risingS x l = true → (x :: l).Nodup → (x :: l).Pairwise slt
  | x, [], _, _ => by simp
  | x, y :: l, h, nd => by
    unfold risingS at h
    obtain ⟨h1, h2⟩ := Bool.and_eq_true_iff.mp h
    have nd2 := List.nodup_cons.mp nd
    have ih := rising_slt h2 nd2.2
    have hxy : slt x y := by
      have hne : x ≠ y := fun e => nd2.1 (by rw [e]; exact List.mem_cons_self ..)
      rcases str_tri hne with q | q
      · exact q
      · rw [PyProof.Rows.ltCps_eq] at h1
        simp at h1
        exact absurd q (by simpa using h1)
    refine List.pairwise_cons.mpr ⟨fun w hw => ?_, ih⟩
    rcases List.mem_cons.mp hw with e | hw
    · rw [e]; exact hxy
    · exact List.lt_trans hxy ((List.pairwise_cons.mp ih).1 w hw)
/-- sorted(e), different texts -/
theorem o_sortT {xs : List Str} (nd : xs.Nodup) (hl : xs.length < 64) (q : ∀ ys, OrdS xs ys → P (.lst (ys.map D.str))) : OC z (rSortedS K) [.lst (xs.map D.str)] P := fun hs vs H p rs Q w => by
  cases rs with
  | cons r1 rs =>
    cases rs
    cases r1 with
    | @lst a us _ g1 g2 =>
      have ev := ra_strs _ _ g2
      subst ev
      refine ⟨a, xs, rfl, .inl (.inl (hid_sub _ _ g1)), hl, fun ys p' pm so n => new_w w p n (fun H' e1 e2 => .lst e1 (strs_ra ys)) (q ys ⟨?_, fun k => pm.mem_iff⟩)⟩
      have ndy := pm.nodup_iff.mpr nd
      cases ys with
      | nil => exact .nil
      | cons y ys => exact rising_slt so ndy
/-- i, j = [..], [..] -/
theorem x_parNN {i j : Nat} (hi : i < r.length) (hj : j < r.length) (h : E1N z te (r.map Sl.dat) fun ds => E1N z te2 (r.map Sl.dat) fun es => out.nx ((r.set i (.ow ds)).set j (.ow es))) : X1 z (tPar i j (tCons te (tCons te2 tNil))) r out := fun hs σ H O s F w =>
  h (hsO hs O) σ H s.okO s.ss.dat _ fun p vs H1 ds e1 p1 n hp rs q => by
    have N := New1.make s e1 p1 n hp
    refine q (hsO hs (p :: O)) σ H1 N.ok N.dat _ fun p2 vs2 H2 es e2 pk2 n2 hp2 rs2 qq => ?_
    obtain ⟨O1, sub, s1⟩ := N.own hp (RA.mono hidP _ _ rs) hi
    have sub1 : ∀ a, hsO hs O1 a → hsO hs (p :: O) a := fun a ha => ha.imp id fun ha => by
      rcases sub a ha with rfl | h
      · exact List.mem_cons_self ..
      · exact List.mem_cons_of_mem _ h
    have N2 := New1.make s1 e2 ⟨pk2.pot, fun a ha => pk2.tr a (sub1 a ha)⟩ n2 hp2
    obtain ⟨O2, sub2, s2⟩ := N2.own hp2 (RA.mono (hid_less fun a ha => by
      rcases ha with ha | ha
      · exact .inl (.inl ha)
      · rcases List.mem_cons.mp ha with ha | ha
        · exact .inr ha
        · exact .inl (sub1 a (.inr ha))) _ _ rs2) (i := j) (by rw [List.length_set]; exact hj)
    refine ⟨_, _, rfl, w.nx _ _ _ O2 ⟨fun a o m _ h => e2 a o m (e1 a o m h), fun a ha => ?_⟩ s2 qq⟩
    rcases sub2 a ha with rfl | h
    · exact .inr ⟨N2.n1, by
        cases q : H a with
        | none => rfl
        | some o =>
          have := e1 a o N2.n1 q
          rw [n2] at this
          cases this⟩
    · rcases sub a h with rfl | h
      · exact .inr ⟨N.n1, n⟩
      · exact .inl h
/-- i, j = [..], e -/
theorem x_parNV {i j : Nat} (hi : i < r.length) (h : E1N z te (r.map Sl.dat) fun ds => E1 z ta (r.map Sl.dat) fun d => out.nx ((r.set i (.ow ds)).set j (.va d))) : X1 z (tPar i j (tCons te (tCons ta tNil))) r out := fun hs σ H O s F w =>
  h (hsO hs O) σ H s.okO s.ss.dat _ fun p vs H1 ds e1 p1 n hp rs q => by
    have N := New1.make s e1 p1 n hp
    refine q (hsO hs (p :: O)) σ H1 N.ok N.dat _ fun v H2 d e2 p2 rv q => ?_
    have N2 := N.next e2 p2
    obtain ⟨O1, sub, s1⟩ := N2.own (e2 p _ N.n1 hp) (RA.mono (hidP.trans (exz_hid e2)) _ _ rs) hi
    obtain ⟨O2, sub2, s2⟩ := s1.setVa (R.mono (sub_less sub) _ _ rv) j
    refine ⟨_, _, rfl, w.nx _ _ _ O2 ⟨fun a o m _ h => e2 a o m (e1 a o m h), fun a ha => ?_⟩ s2 q⟩
    rcases sub a (sub2 a ha) with rfl | h
    · exact .inr ⟨N.n1, n⟩
    · exact .inl h
end
/-! ### a teller that returns in its clause -/
def SuitesR (z : Zp) (K : PySem.W.Frag) (n : Nat) (l : List (Value × Nat × (Addr → Value → Option Addr → TS))) (C : Addr) (fs : List (Str × D)) (d : D) : Prop := ∀ (dd : Addr) (vs : List (Str × V)) (H G : Hp) (σ : L2.St) (D0 : Ends) (W0 : WX), H dd = some (.xd vs) → RF z G vs fs → σ.length = n →
  (∀ p us ds, d = .lst ds → H p = none → RA z G us ds → D0.rt (.ref p) (upd H p (.lst us))) → wAsM K W0 D0 l (.ref C) (some dd) σ H
theorem told_runR {z : Zp} {K : PySem.W.Frag} {n : Nat} {l : List (Value × Nat × (Addr → Value → Option Addr → TS))} {W0 : WX} {ds0 : List D} {vs0 : List V} {te0 : TE} {tell : Addr → List (Str × D) → D → Prop} (h0 : ∀ (σ : L2.St) (H : Hp) (Q : VK), (∀ P, H P = none → Q (.ref P) (upd H P (.lst vs0))) → te0 σ H Q) (r0 : ∀ G, RA z G vs0 ds0)
    (ok : ∀ C fs d, tell C fs d → SuitesR z K (n + 1) l C fs d) {tl : XK → Hp → VK → Prop} {H : Hp} {Q : VK} {f c' : Addr} {q : Str} (hc : H c' = some (LamX.CodeO c' q)) (h : TTg z K (.lst ds0) tell tl H Q) {nx : L2.St → Hp → Prop} :
    tSeq (fun D σ H => tDeed (n + 1) f c' q tl (wAsM K W0 D l) D σ H) (tRet te0) { nx := nx, rt := Q } (some (.ref f) :: List.replicate n none) H := by
  obtain ⟨hs, Pn, PX, p, run, n1, n2⟩ := h
  refine ⟨fun cls d H' => ∃ C fs dd vs, cls = .ref C ∧ d = some dd ∧ PX C fs ∧ ExZ z H H' ∧ Ok z hs H' ∧ H' dd = some (.xd vs) ∧ RF z (hid z hs H') vs fs, ?_, rfl, hc, run _ _ _ (ExZ.refl z H) p (fun v H' e2 p2 hn => ?_) fun C fs dd H' vs e2 p2 g r x => ⟨C, fs, dd, vs, rfl, rfl, x, e2, p2, g, r⟩⟩
  · rintro cls d σ' H' ⟨C, fs, dd, vs, rfl, rfl, x, e2, p2, g, r⟩ hl
    obtain ⟨d, t, w⟩ := n2 C fs x
    refine ok C fs d t dd vs H' _ σ' _ _ g r hl fun P2 us ds ed n' ra => ?_
    subst ed
    exact new_w (w.back e2) p2 n' (fun H3 h1 h2 => .lst h1 (RA.mono h2 _ _ ra)) rfl
  · refine h0 _ _ _ fun P2 n' => ?_
    exact new_w ((n1 hn).back e2) p2 n' (fun H3 h1 h2 => .lst h1 (r0 _)) rfl
/-! ### more comparisons of lists of words and of texts -/
section
variable {z : Zp} {P : D → Prop} {K : PySem.W.Frag}
theorem isPy_wds (k : List (List Str)) : isPy (.lst (k.map wd)) = true := by simp only [isPy, isPyA_wds]
theorem eqv_lwds (k l : List (List Str)) : PyData.eqv (py (.lst (k.map wd))) (py (.lst (l.map wd))) = decide (k = l) := by
  simp only [py, pyA_wds, PyData.eqv, eqv_wds]
theorem o_eqWs {k l : List (List Str)} (hk : okWs k) (hl : okWs l) (q : P (.bl (decide (k = l)))) : O2 z (rEqD K) (.lst (k.map wd)) (.lst (l.map wd)) P := o_eqD (isPy_wds k) (isPy_wds l) (shaped_wds hk) (shaped_wds hl) (by
  rw [eqv_lwds]
  exact q)
theorem shaped_wdsT {ws : List (List Str)} (h : okWs ws) : SeqAt.shaped (py (.tup (ws.map wd))) = true := by
  have := shaped_wds h
  simpa [py, SeqAt.shaped, PyData.canLay0, PyData.depth] using this
theorem o_eqWt {k l : List (List Str)} (hk : okWs k) (hl : okWs l) (q : P (.bl (decide (k = l)))) : O2 z (rEqD K) (.tup (k.map wd)) (.tup (l.map wd)) P := o_eqD (by simp only [isPy, isPyA_wds]) (by simp only [isPy, isPyA_wds]) (shaped_wdsT hk) (shaped_wdsT hl) (by
  have : PyData.eqv (py (.tup (k.map wd))) (py (.tup (l.map wd))) = decide (k = l) := by simp only [py, pyA_wds, PyData.eqv, eqv_wds]
  rw [this]
  exact q)
theorem pySL (k : List Str) : py (.lst (k.map D.str)) = .list (k.map .str) := by
  have : ∀ k : List Str, pyA (k.map D.str) = k.map PyData.str := fun k => by
    induction k with
    | nil => rfl
    | cons x k ih => simp only [List.map_cons, pyA, py, ih]
  simp only [py, this]
theorem shapedSL {k : List Str} (h : okW k) : SeqAt.shaped (py (.lst (k.map D.str))) = true := by
  rw [pySL]
  unfold SeqAt.shaped
  simp [PyData.canLay0, can_strs k h, PyData.depth, WS.depth_strs]
theorem o_neSL {k l : List Str} (hk : okW k) (hl : okW l) (q : P (.bl (!decide (k = l)))) : O2 z (rNeD K) (.lst (k.map D.str)) (.lst (l.map D.str)) P := o_neD (isPy_wd k) (isPy_wd l) (shapedSL hk) (shapedSL hl) (by
  rw [pySL, pySL]
  simp only [PyData.eqv, eqv_strs]
  exact q)
theorem o_eqSL {k l : List Str} (hk : okW k) (hl : okW l) (q : P (.bl (decide (k = l)))) : O2 z (rEqD K) (.lst (k.map D.str)) (.lst (l.map D.str)) P := o_eqD (isPy_wd k) (isPy_wd l) (shapedSL hk) (shapedSL hl) (by
  rw [pySL, pySL]
  simp only [PyData.eqv, eqv_strs]
  exact q)
end
/-- an operator of a class with a text on the right -/
structure OpT (K : PySem.W.Frag) (C : Addr) (op : Operator) : Prop where
  s : PySem.W.selfFirst K C = true
  r : PySem.W.findIn K (.ref C) (dunderR op.info.2) = some none
  a : PySem.W.findIn K (.type "str") (PySem.dunder op.info.2) = some none
  b : PySem.W.findIn K (.type "str") (dunderR op.info.2) = some none
  sub : PySem.W.subIn K (.type "str") (.ref C) = some false
/-- a property of the text -/
structure Pf (K : PySem.W.Frag) (C : Addr) (m qual : Str) (st : Stmt) (ps : List Str) (g : Addr) (fd : FuncData) : Prop where
  F : Fun K m qual st g fd
  p : ∃ p, PropOf K C m p g
  b : Binds K fd ps []
theorem pe_propE {X : Cx} {CX : CXT} {k : Nat} {C g : Addr} {f : Str} {fd : FuncData} {ps : List Str} {sp : Sp} {E : XK} {e : Expr} {pos : Pos} {ta : TE} (he : PE X e ta) (c : Cls X.K C) (hp : ∃ p, PropOf X.K C f p g) (F : FnOk X.prog X.w X.K X.mg X.base CX k g fd ps sp) (hr : Room (k + 1) X.A) (hb : Binds X.K fd ps []) (hx : Passes CX X.nox E)
    (hab : attributeBase e f X.env (eval e X.env) = eval e X.env := by rfl) : PE X (.Attribute e f pos) (tProp C sp [] E ta) := by
  obtain ⟨p, hp⟩ := hp
  exact pe_prop he c hp F hr hb .nil hx hab
end PD

set_option Elab.async false
set_option linter.all false
set_option maxRecDepth 100000
set_option maxHeartbeats 4000000
/-! PI13: closed sets of words, all words over some letters, as plain laws. -/
namespace PD
open PySem PySem.Spec PyProof.Rows L2
theorem IsOrd.congr {ws us os : List (List Str)} (h : IsOrd ws os) (e : ∀ k, k ∈ ws ↔ k ∈ us) : IsOrd us os := ⟨h.srt, fun k => (h.mem k).trans (e k)⟩
/-! ### all words over some letters -/
theorem mem_lay (ss : List Str) : ∀ (n : Nat) (k : List Str), k ∈ layW ss n ↔ k.length = n ∧ ∀ x ∈ k, x ∈ ss
  | 0, k => by
    show k ∈ [[]] ↔ _
    rw [List.mem_singleton]
    constructor
    · rintro rfl; exact ⟨rfl, fun x h => by cases h⟩
    · rintro ⟨h, _⟩; exact List.length_eq_zero_iff.mp h
  | n + 1, k => by
    show k ∈ ((layW ss n).flatMap fun v => ss.map fun t => v ++ [t]) ↔ _
    rw [List.mem_flatMap]
    constructor
    · rintro ⟨v, hv, hk⟩
      obtain ⟨t, ht, rfl⟩ := List.mem_map.mp hk
      obtain ⟨h1, h2⟩ := (mem_lay ss n v).mp hv
      refine ⟨by rw [List.length_append, h1]; rfl, fun x hx => ?_⟩
      rcases List.mem_append.mp hx with hx | hx
      · exact h2 x hx
      · rw [List.mem_singleton.mp hx]; exact ht
    · rintro ⟨h1, h2⟩
      have hne : k ≠ [] := fun e => by rw [e] at h1; cases h1
      refine ⟨k.dropLast, (mem_lay ss n _).mpr ⟨by rw [List.length_dropLast, h1]; rfl, fun x hx => h2 x (List.dropLast_subset k hx)⟩, List.mem_map.mpr ⟨k.getLast hne, h2 _ (List.getLast_mem hne), List.dropLast_concat_getLast hne⟩⟩
def over (ss : List Str) (n : Nat) : List (List Str) := [] :: fndW ss n
theorem mem_over (ss : List Str) (n : Nat) (k : List Str) : k ∈ over ss n ↔ k.length ≤ n ∧ ∀ x ∈ k, x ∈ ss := by
  show k ∈ [] :: fndW ss n ↔ _
  rw [List.mem_cons, fnd_mem]
  constructor
  · rintro (rfl | ⟨m, h1, h2, h3⟩)
    · exact ⟨Nat.zero_le _, fun x h => by cases h⟩
    · obtain ⟨h4, h5⟩ := (mem_lay ss m k).mp h3
      exact ⟨by omega, h5⟩
  · rintro ⟨h1, h2⟩
    by_cases e : k = []
    · exact .inl e
    · have := List.length_pos_iff.mpr e
      exact .inr ⟨k.length, by omega, h1, (mem_lay ss _ k).mpr ⟨rfl, h2⟩⟩
theorem fnd_len (ss : List Str) : ∀ n, (fndW ss (n + 1)).length = (fndW ss n).length + ss.length ^ (n + 1) := fun n => by
  show (fndW ss n ++ layW ss (n + 1)).length = _
  rw [List.length_append, lay_len]
theorem pow_le3 {m : Nat} (h : m ≤ 3) : m ≤ 3 ∧ m ^ 2 ≤ 9 ∧ m ^ 3 ≤ 27 := by
  rcases (by omega : m = 0 ∨ m = 1 ∨ m = 2 ∨ m = 3) with rfl | rfl | rfl | rfl <;> decide
theorem over_len {ss : List Str} {n : Nat} (hs : ss.length ≤ 3) (hn : n ≤ 3) : (over ss n).length ≤ 40 := by
  obtain ⟨p1, p2, p3⟩ := pow_le3 hs
  show (fndW ss n).length + 1 ≤ 40
  have e0 : (fndW ss 0).length = 0 := rfl
  have e1 : (fndW ss 1).length = (fndW ss 0).length + ss.length ^ 1 := fnd_len ss 0
  have e2 : (fndW ss 2).length = (fndW ss 1).length + ss.length ^ 2 := fnd_len ss 1
  have e3 : (fndW ss 3).length = (fndW ss 2).length + ss.length ^ 3 := fnd_len ss 2
  rw [Nat.pow_one] at e1
  rcases (by omega : n = 0 ∨ n = 1 ∨ n = 2 ∨ n = 3) with rfl | rfl | rfl | rfl <;> omega
theorem over_gw {ss : List Str} {n : Nat} (hs : ∀ x ∈ ss, sgn x = true) (hn : n ≤ 3) : ∀ k ∈ over ss n, gw k := fun k hk => by
  obtain ⟨h1, h2⟩ := (mem_over ss n k).mp hk
  exact ⟨by omega, fun x hx => hs x (h2 x hx)⟩
theorem lay_nodup {ss : List Str} (nd : ss.Nodup) : ∀ n, (layW ss n).Nodup
  | 0 => by simp [layW]
  | n + 1 => by
    show ((layW ss n).flatMap fun v => ss.map fun t => v ++ [t]).Pairwise (· ≠ ·)
    rw [List.pairwise_flatMap]
    refine ⟨fun v hv => ?_, ?_⟩
    · rw [List.pairwise_map]
      exact nd.imp fun {a b} h e => h (by simpa using List.append_cancel_left e)
    · refine (lay_nodup nd n).imp fun {a b} h x hx y hy e => h ?_
      obtain ⟨t, _, rfl⟩ := List.mem_map.mp hx
      obtain ⟨u, _, rfl⟩ := List.mem_map.mp hy
      exact (List.append_inj' e rfl).1
theorem fnd_nodup {ss : List Str} (nd : ss.Nodup) : ∀ n, (fndW ss n).Nodup
  | 0 => .nil
  | n + 1 => by
    show (fndW ss n ++ layW ss (n + 1)).Nodup
    rw [List.nodup_append]
    refine ⟨fnd_nodup nd n, lay_nodup nd (n + 1), fun a ha b hb e => ?_⟩
    subst e
    obtain ⟨m, h1, h2, h3⟩ := (fnd_mem ss n a).mp ha
    have := ((mem_lay ss m a).mp h3).1
    have := ((mem_lay ss (n + 1) a).mp hb).1
    omega
theorem over_nodup {ss : List Str} (nd : ss.Nodup) (n : Nat) : (over ss n).Nodup := by
  refine List.nodup_cons.mpr ⟨fun h => ?_, fnd_nodup nd n⟩
  obtain ⟨m, h1, h2, h3⟩ := (fnd_mem ss n []).mp h
  have := ((mem_lay ss m []).mp h3).1
  simp at this
  omega
theorem ord_len {ws os : List (List Str)} (h : IsOrd ws os) (nd : ws.Nodup) : os.length = ws.length := Nat.le_antisymm h.len (nodup_len nd fun k hk => (h.mem k).mpr hk)
theorem full40 {ss : List Str} {os : List (List Str)} (nd : ss.Nodup) (h3 : ss.length = 3) (h : IsOrd (over ss 3) os) : os.length = 40 := by
  rw [ord_len h (over_nodup nd 3)]
  have e0 : (fndW ss 0).length = 0 := rfl
  have e1 : (fndW ss 1).length = (fndW ss 0).length + ss.length ^ 1 := fnd_len ss 0
  have e2 : (fndW ss 2).length = (fndW ss 1).length + ss.length ^ 2 := fnd_len ss 1
  have e3 : (fndW ss 3).length = (fndW ss 2).length + ss.length ^ 3 := fnd_len ss 2
  rw [h3] at e1 e2 e3
  simp only [Nat.reducePow] at e1 e2 e3
  show (fndW ss 3).length + 1 = 40
  omega
/-! ### the closing -/
def inits (w : List Str) : List (List Str) := (List.range (w.length + 1)).map fun i => w.take i
def clo (ws : List (List Str)) : List (List Str) := [] :: ws.flatMap inits
theorem mem_inits {w k : List Str} : k ∈ inits w ↔ k <+: w := by
  unfold inits
  rw [List.mem_map]
  constructor
  · rintro ⟨i, _, rfl⟩; exact List.take_prefix i w
  · intro h
    refine ⟨k.length, List.mem_range.mpr (Nat.lt_succ_of_le h.length_le), (List.prefix_iff_eq_take.mp h).symm⟩
theorem mem_clo {ws : List (List Str)} {k : List Str} : k ∈ clo ws ↔ k = [] ∨ ∃ w ∈ ws, k <+: w := by
  unfold clo
  rw [List.mem_cons, List.mem_flatMap]
  exact or_congr Iff.rfl ⟨fun ⟨w, hw, h⟩ => ⟨w, hw, mem_inits.mp h⟩, fun ⟨w, hw, h⟩ => ⟨w, hw, mem_inits.mpr h⟩⟩
theorem clo_gw {ws : List (List Str)} (h : ∀ k ∈ ws, gw k) : ∀ k ∈ clo ws, gw k := fun k hk => by
  rcases mem_clo.mp hk with rfl | ⟨w, hw, hp⟩
  · exact gw_nil
  · exact ⟨Nat.le_trans hp.length_le (h w hw).1, fun x hx => (h w hw).2 x (hp.subset hx)⟩
/-- a list of words with the words of over ss n, no others -/
theorem clo_over {ss : List Str} {n : Nat} {ws : List (List Str)} (h : ∀ k, k ∈ ws ↔ k ∈ over ss n) (k : List Str) : k ∈ clo ws ↔ k ∈ over ss n := by
  rw [mem_clo]
  constructor
  · rintro (rfl | ⟨w, hw, hp⟩)
    · exact (mem_over ss n []).mpr ⟨Nat.zero_le _, fun x h => by cases h⟩
    · obtain ⟨h1, h2⟩ := (mem_over ss n w).mp ((h w).mp hw)
      exact (mem_over ss n k).mpr ⟨Nat.le_trans hp.length_le h1, fun x hx => h2 x (hp.subset hx)⟩
  · intro hk
    exact .inr ⟨k, (h k).mpr hk, List.prefix_refl k⟩
theorem few_over {ss : List Str} {n : Nat} (hs : ss.length ≤ 3) (hn : n ≤ 3) {us : List (List Str)} (nd : us.Nodup) (h : ∀ k ∈ us, k ∈ over ss n) : us.length < 64 := by
  have := nodup_len nd h
  have := over_len hs hn
  omega
/-! ### what a full front tells -/
def ones (os : List (List Str)) : List Str := (os.filter fun k => decide (k.length = 1)).map fun k => k.headD ""
theorem mem_ones {os : List (List Str)} {x : Str} : x ∈ ones os ↔ [x] ∈ os := by
  unfold ones
  rw [List.mem_map]
  constructor
  · rintro ⟨k, hk, rfl⟩
    obtain ⟨h1, h2⟩ := List.mem_filter.mp hk
    match k, of_decide_eq_true h2 with
    | [y], _ => exact h1
  · intro h
    exact ⟨[x], List.mem_filter.mpr ⟨h, rfl⟩, rfl⟩
theorem ones_srt {os : List (List Str)} (h : os.Pairwise wlt) : (ones os).Pairwise slt := by
  unfold ones
  rw [List.pairwise_map, List.pairwise_filter]
  refine h.imp fun {a b} h1 h2 h3 => ?_
  have h2 := of_decide_eq_true h2
  have h3 := of_decide_eq_true h3
  match a, h2, b, h3 with
  | [x], _, [y], _ =>
    rcases h1 with h1 | ⟨_, h1⟩
    · simp at h1
    · simp only [lexS] at h1
      by_cases e : x = y
      · rw [if_pos e] at h1; cases h1
      · rw [if_neg e] at h1
        exact of_decide_eq_true (p := x.cps.toList < y.cps.toList) h1
theorem ones_ord {ss : List Str} {n : Nat} {os : List (List Str)} (h : IsOrd (over ss n) os) (hn : 1 ≤ n) : OrdS ss (ones os) := ⟨ones_srt h.srt, fun x => by
  rw [mem_ones, h.mem, mem_over]
  exact ⟨fun h => h.2 x (List.mem_singleton.mpr rfl), fun h => ⟨hn, fun y hy => by rw [List.mem_singleton.mp hy]; exact h⟩⟩⟩
theorem ones_nil {ss : List Str} {os : List (List Str)} (h : IsOrd (over ss 0) os) : ones os = [] := by
  refine List.eq_nil_iff_forall_not_mem.mpr fun x hx => ?_
  have := (mem_over ss 0 [x]).mp ((h.mem _).mp (mem_ones.mp hx))
  simp at this
theorem ord_ne {ss : List Str} {n : Nat} {os : List (List Str)} (h : IsOrd (over ss n) os) : os ≠ [] := fun e => by
  have := (h.mem []).mpr (List.mem_cons_self ..)
  rw [e] at this
  cases this
/-- its last word is one of the longest -/
theorem last_long {os : List (List Str)} (h : os.Pairwise wlt) (hne : os ≠ []) : ∀ k ∈ os, k.length ≤ (os.getLast hne).length := fun k hk => by
  have e := List.dropLast_concat_getLast hne
  rw [← e] at hk h
  rcases List.mem_append.mp hk with hk | hk
  · have := (List.pairwise_append.mp h).2.2 k hk _ (List.mem_singleton.mpr rfl)
    rcases this with h | ⟨h, _⟩ <;> omega
  · rw [List.mem_singleton.mp hk]
    omega
theorem last_over {ss : List Str} {n : Nat} {os : List (List Str)} (h : IsOrd (over ss n) os) : (os.getLast (ord_ne h)).length = if ss = [] then 0 else n := by
  have hm := (mem_over ss n _).mp ((h.mem _).mp (List.getLast_mem (ord_ne h)))
  cases ss with
  | nil =>
    rw [if_pos rfl]
    cases e : os.getLast (ord_ne h) with
    | nil => rfl
    | cons x k =>
      rw [e] at hm
      exact absurd (hm.2 x (List.mem_cons_self ..)) (by simp)
  | cons x ss =>
    rw [if_neg (by simp)]
    have hr : List.replicate n x ∈ os := (h.mem _).mpr ((mem_over _ n _).mpr ⟨by simp, fun y hy => by rw [List.eq_of_mem_replicate hy]; exact List.mem_cons_self ..⟩)
    have := last_long h.srt (ord_ne h) _ hr
    rw [List.length_replicate] at this
    omega
/-- what stands behind a letter -/
def bhd (os : List (List Str)) (x : Str) : List (List Str) := (os.filter fun k => decide (0 < k.length) && decide (k.headD "" = x)).map fun k => k.drop 1
theorem mem_bhd {os : List (List Str)} {x : Str} {k : List Str} : k ∈ bhd os x ↔ (x :: k) ∈ os := by
  unfold bhd
  rw [List.mem_map]
  constructor
  · rintro ⟨l, hl, rfl⟩
    obtain ⟨h1, h2⟩ := List.mem_filter.mp hl
    obtain ⟨h2, h3⟩ := Bool.and_eq_true_iff.mp h2
    match l, of_decide_eq_true h2, of_decide_eq_true h3 with
    | y :: r, _, h3 =>
      have h3 : y = x := h3
      subst h3
      exact h1
  · intro h
    exact ⟨x :: k, List.mem_filter.mpr ⟨h, by simp⟩, rfl⟩
theorem bhd_over {ss : List Str} {n : Nat} {os : List (List Str)} {x : Str} (h : IsOrd (over ss (n + 1)) os) (hx : x ∈ ss) (k : List Str) : k ∈ bhd os x ↔ k ∈ over ss n := by
  rw [mem_bhd, h.mem, mem_over, mem_over]
  constructor
  · rintro ⟨h1, h2⟩
    exact ⟨by simpa using h1, fun y hy => h2 y (List.mem_cons_of_mem _ hy)⟩
  · rintro ⟨h1, h2⟩
    exact ⟨by simpa using h1, fun y hy => (List.mem_cons.mp hy).elim (fun e => by rw [e]; exact hx) (h2 y)⟩
def cutW (os : List (List Str)) (m : Nat) : List (List Str) := os.filter fun k => decide (k.length ≤ m)
theorem cut_over {ss : List Str} {n m : Nat} {os : List (List Str)} (h : IsOrd (over ss n) os) (hm : m ≤ n) (k : List Str) : k ∈ cutW os m ↔ k ∈ over ss m := by
  unfold cutW
  rw [List.mem_filter, h.mem, mem_over, mem_over, decide_eq_true_eq]
  exact ⟨fun ⟨⟨_, h2⟩, h3⟩ => ⟨h3, h2⟩, fun ⟨h1, h2⟩ => ⟨⟨by omega, h2⟩, h1⟩⟩
/-! ### words by numbers -/
def dg (ss : List Str) (n c : Nat) : List Str := (List.range n).map fun i => ss.getD (c / ss.length ^ i % ss.length) ""
theorem dg_succ (ss : List Str) (n c : Nat) : dg ss (n + 1) c = dg ss n c ++ [ss.getD (c / ss.length ^ n % ss.length) ""] := by
  unfold dg
  rw [List.range_succ, List.map_append]
  rfl
theorem dg_cons (ss : List Str) (n c : Nat) : dg ss (n + 1) c = ss.getD (c % ss.length) "" :: dg ss n (c / ss.length) := by
  unfold dg
  rw [List.range_succ_eq_map, List.map_cons, List.map_map, Nat.pow_zero, Nat.div_one]
  congr 1
  refine List.map_congr_left fun i _ => ?_
  show ss.getD (c / ss.length ^ (i + 1) % ss.length) "" = _
  rw [Nat.pow_succ, Nat.mul_comm, Nat.div_div_eq_div_mul]
theorem mem_dgs {ss : List Str} (h0 : 0 < ss.length) : ∀ (n : Nat) (k : List Str), (∃ c, c < ss.length ^ n ∧ dg ss n c = k) ↔ k.length = n ∧ ∀ x ∈ k, x ∈ ss
  | 0, k => by
    constructor
    · rintro ⟨c, _, rfl⟩; exact ⟨rfl, fun x h => by cases h⟩
    · rintro ⟨h, _⟩
      rw [List.length_eq_zero_iff.mp h]
      exact ⟨0, Nat.one_pos, rfl⟩
  | n + 1, k => by
    constructor
    · rintro ⟨c, hc, rfl⟩
      rw [dg_cons]
      have hc2 : c / ss.length < ss.length ^ n := (Nat.div_lt_iff_lt_mul h0).mpr (by rw [← Nat.pow_succ]; exact hc)
      obtain ⟨h1, h2⟩ := (mem_dgs h0 n _).mp ⟨_, hc2, rfl⟩
      refine ⟨by rw [List.length_cons, h1], fun x hx => ?_⟩
      rcases List.mem_cons.mp hx with e | hx
      · rw [e, List.getD_eq_getElem?_getD, List.getElem?_eq_getElem (Nat.mod_lt _ h0)]
        exact List.getElem_mem _
      · exact h2 x hx
    · rintro ⟨h1, h2⟩
      match k, h1 with
      | x :: k, h1 =>
        obtain ⟨c, hc, e⟩ := (mem_dgs h0 n k).mpr ⟨by simpa using h1, fun y hy => h2 y (List.mem_cons_of_mem _ hy)⟩
        obtain ⟨i, hi, rfl⟩ := List.getElem_of_mem (h2 x (List.mem_cons_self ..))
        have m1 : (i + ss.length * c) % ss.length = i := by rw [Nat.add_mul_mod_self_left, Nat.mod_eq_of_lt hi]
        have m2 : (i + ss.length * c) / ss.length = c := by rw [Nat.add_mul_div_left _ _ h0, Nat.div_eq_of_lt hi, Nat.zero_add]
        refine ⟨i + ss.length * c, ?_, ?_⟩
        · rw [Nat.pow_succ, Nat.mul_comm (ss.length ^ n)]
          calc i + ss.length * c < ss.length + ss.length * c := Nat.add_lt_add_right hi _
            _ = ss.length * (c + 1) := by rw [Nat.mul_add, Nat.mul_one, Nat.add_comm]
            _ ≤ ss.length * ss.length ^ n := Nat.mul_le_mul_left _ hc
        · rw [dg_cons, m1, m2, e, List.getD_eq_getElem?_getD, List.getElem?_eq_getElem hi]
          rfl
/-- the law's own listing: sizes below n -/
def allD (ss : List Str) (n : Nat) : List (List Str) := (List.range n).flatMap fun s => (List.range (ss.length ^ s)).map (dg ss s)
theorem allD_succ (ss : List Str) (n : Nat) : allD ss (n + 1) = allD ss n ++ (List.range (ss.length ^ n)).map (dg ss n) := by
  unfold allD
  rw [List.range_succ, List.flatMap_append]
  simp
theorem mem_allD (ss : List Str) (n : Nat) (k : List Str) : k ∈ allD ss (n + 1) ↔ k ∈ over ss n := by
  rw [mem_over]
  unfold allD
  rw [List.mem_flatMap]
  have key : ∀ s, k ∈ (List.range (ss.length ^ s)).map (dg ss s) ↔ k.length = s ∧ ∀ x ∈ k, x ∈ ss := fun s => by
    rw [List.mem_map]
    by_cases h0 : 0 < ss.length
    · rw [← mem_dgs h0 s k]
      exact ⟨fun ⟨c, h1, h2⟩ => ⟨c, List.mem_range.mp h1, h2⟩, fun ⟨c, h1, h2⟩ => ⟨c, List.mem_range.mpr h1, h2⟩⟩
    · have e : ss = [] := List.length_eq_zero_iff.mp (by omega)
      subst e
      cases s with
      | zero =>
        constructor
        · rintro ⟨c, _, rfl⟩; exact ⟨rfl, fun x h => by cases h⟩
        · rintro ⟨h, _⟩
          rw [List.length_eq_zero_iff.mp h]
          exact ⟨0, List.mem_range.mpr Nat.one_pos, rfl⟩
      | succ s =>
        constructor
        · rintro ⟨c, h, _⟩
          have := List.mem_range.mp h
          simp [Nat.pow_succ] at this
        · rintro ⟨h1, h2⟩
          match k, h1 with
          | x :: k, _ => exact absurd (h2 x (List.mem_cons_self ..)) (by simp)
  constructor
  · rintro ⟨s, h1, h2⟩
    obtain ⟨h3, h4⟩ := (key s).mp h2
    exact ⟨by have := List.mem_range.mp h1; omega, h4⟩
  · rintro ⟨h1, h2⟩
    exact ⟨k.length, List.mem_range.mpr (by omega), (key _).mpr ⟨rfl, h2⟩⟩
theorem allD_len {ss : List Str} {n : Nat} (hs : ss.length ≤ 3) (hn : n ≤ 4) : (allD ss n).length ≤ 40 := by
  obtain ⟨p1, p2, p3⟩ := pow_le3 hs
  have e0 : (allD ss 0).length = 0 := rfl
  have st : ∀ m, (allD ss (m + 1)).length = (allD ss m).length + ss.length ^ m := fun m => by rw [allD_succ, List.length_append, List.length_map, List.length_range]
  have e1 : (allD ss 1).length = (allD ss 0).length + ss.length ^ 0 := st 0
  have e2 : (allD ss 2).length = (allD ss 1).length + ss.length ^ 1 := st 1
  have e3 : (allD ss 3).length = (allD ss 2).length + ss.length ^ 2 := st 2
  have e4 : (allD ss 4).length = (allD ss 3).length + ss.length ^ 3 := st 3
  rw [Nat.pow_zero] at e1
  rw [Nat.pow_one] at e2
  rcases (by omega : n = 0 ∨ n = 1 ∨ n = 2 ∨ n = 3 ∨ n = 4) with rfl | rfl | rfl | rfl | rfl <;> omega
end PD

set_option Elab.async false
set_option linter.all false
set_option maxRecDepth 100000
set_option maxHeartbeats 4000000
/-! PI14: small things for own classes with defaults. -/
namespace PD
open PySem PySem.Spec PyProof.Rows L2
theorem Oc.mkK' {K : PySem.W.Frag} {mg : Str → Option Value} {nm qual : Str} {fs ps : List Str} {C f : Addr} {st : Stmt} {fd : FuncData} (c : Oc K mg nm fs C) (d : MfE K C "__init__" qual st ps f fd) : Mk K C f := ⟨c.makes, d.M.at_, d.M.fn, c.kp⟩
theorem o_isInt {z : Zp} {P : D → Prop} {K : PySem.W.Frag} {i : Int} (q : P (.bl true)) : OC z (rIsi K) [.int i, .raw (.ty "int")] P := o_isTy ⟨.int i, "int", "int", true, rfl, rfl, by decide +kernel, q⟩
theorem o_isBool {z : Zp} {P : D → Prop} {K : PySem.W.Frag} {i : Int} (q : P (.bl false)) : OC z (rIsi K) [.int i, .raw (.ty "bool")] P := o_isTy ⟨.int i, "int", "bool", false, rfl, rfl, by decide +kernel, q⟩
end PD

set_option Elab.async false
set_option linter.all false
set_option maxRecDepth 100000
set_option maxHeartbeats 4000000
/-! PI15: a walk over a list or a tuple. -/
namespace PD
open PySem PySem.Spec PyProof.Rows L2
def iLT (K : PySem.W.Frag) (tl : TE) : TI := fun σ H R => tl σ H fun x H1 => ∃ a, x = .ref a ∧ (((∃ xs, SqL K H1 a xs) ∧ R (Itl K a) H1) ∨ ((∃ xs, SqT K H1 a xs) ∧ R (Itt K a) H1))
theorem pi_LT {X : Cx} {tg l : Expr} {tl : TE} (hl : PE X l tl) : PI X tg l (iLT X.K tl) := by
  refine ⟨fun pins s σ H R I h => ?_⟩
  refine thn (hl.run pins s σ H _ I h) fun v s1 ⟨x, H1, I1, r1, q1⟩ => ?_
  obtain ⟨a, e, q⟩ := q1
  subst e
  cases r1
  rcases q with ⟨⟨xs, hq⟩, q⟩ | ⟨⟨xs, hq⟩, q⟩
  · obtain ⟨its, rv, p, hz⟩ := I1.list hq
    refine wpAny_pyIter_list p.isList ?_
    refine ⟨s1.heap.objs.size, [s1.heap.objs.size], _, _, H1, rfl, I1.kept (t' := s1.toks) fun b o e => Heap.get?_push_of_some _ e, turn_list a _, ⟨_, Heap.get?_push_size _ rfl, rfl, rfl⟩, fun b hb => ?_, q⟩
    have e : b = s1.heap.objs.size := by simpa using hb
    subst e
    exact I1.fpOk (Nat.le_refl _) (I1.hok.fresh (Nat.le_refl _))
  · obtain ⟨its, rv, p, hz⟩ := I1.tuple hq
    refine wpAny_pyIter_tuple (show s1.heap.IsTuple a its.toArray from p) ?_
    refine ⟨s1.heap.objs.size, [s1.heap.objs.size], _, _, H1, rfl, I1.kept (t' := s1.toks) fun b o e => Heap.get?_push_of_some _ e, turn_tuple a _, ⟨_, Heap.get?_push_size _ rfl, rfl, rfl⟩, fun b hb => ?_, q⟩
    have e : b = s1.heap.objs.size := by simpa using hb
    subst e
    exact I1.fpOk (Nat.le_refl _) (I1.hok.fresh (Nat.le_refl _))
theorem i_LT {z : Zp} {K : PySem.W.Frag} {tl : TE} {ρ : List (Option D)} {PI : Nat → (Nat → D) → Prop} (h : E1 z tl ρ fun d => ∃ ds, (d = .lst ds ∨ d = .tup ds) ∧ PI ds.length fun i => ds.getD i .non) : EI z (iLT K tl) ρ PI := fun hs σ H p s Rr w =>
  h hs σ H p s _ fun v H1 d e1 p1 r ⟨ds, ed, q⟩ => by
    rcases ed with ed | ed
    · subst ed
      cases r with
      | @lst a xs _ h1 h2 =>
        refine ⟨a, rfl, .inl ⟨⟨xs, .inl (.inl (hid_sub a _ h1))⟩, w _ H1 _ _ e1 p1 (fun hs' H' p' k i => ?_) q⟩⟩
        obtain ⟨m1, m2, h1⟩ := hid_some h1
        have hq : SqL K H' a xs := .inl (.inl (k a _ m1 m2 h1).1)
        refine ⟨fun hi => ?_, fun hi => ⟨xs, hq, by rw [h2.length]; exact hi⟩⟩
        have hi' : i < xs.length := by rw [h2.length]; exact hi
        refine ⟨⟨xs, xs[i], hq, List.getElem?_eq_getElem hi'⟩, fun x H2 ⟨e, y⟩ => ?_⟩
        subst e
        refine ⟨fun _ _ q => q, p', ?_⟩
        obtain ⟨d, hd, r⟩ := h2.get (y xs hq)
        rw [List.getD_eq_getElem?_getD, hd]
        exact R.mono (R.off k) _ _ r
    · subst ed
      cases r with
      | @tup a xs _ h1 h2 =>
        refine ⟨a, rfl, .inr ⟨⟨xs, .inl (.inl (hid_sub a _ h1))⟩, w _ H1 _ _ e1 p1 (fun hs' H' p' k i => ?_) q⟩⟩
        obtain ⟨m1, m2, h1⟩ := hid_some h1
        have hq : SqT K H' a xs := .inl (.inl (k a _ m1 m2 h1).1)
        refine ⟨fun hi => ?_, fun hi => ⟨xs, hq, by rw [h2.length]; exact hi⟩⟩
        have hi' : i < xs.length := by rw [h2.length]; exact hi
        refine ⟨⟨xs, xs[i], hq, List.getElem?_eq_getElem hi'⟩, fun x H2 ⟨e, y⟩ => ?_⟩
        subst e
        refine ⟨fun _ _ q => q, p', ?_⟩
        obtain ⟨d, hd, r⟩ := h2.get (y xs hq)
        rw [List.getD_eq_getElem?_getD, hd]
        exact R.mono (R.off k) _ _ r
end PD

set_option Elab.async false
set_option linter.all false
set_option maxRecDepth 100000
set_option maxHeartbeats 4000000
/-! PI16: small plain things that the laws' own defs want. -/
namespace PD
open PySem PySem.Spec PyProof.Rows L2
theorem getW {k : List Str} {i : Nat} (hi : i < k.length) : (k.map D.str).getD i .non = .str k[i] := by
  rw [List.getD_eq_getElem?_getD, List.getElem?_map, List.getElem?_eq_getElem hi]; rfl
theorem getWs {ws : List (List Str)} {i : Nat} (hi : i < ws.length) : (ws.map wd).getD i .non = wd ws[i] := by
  rw [List.getD_eq_getElem?_getD, List.getElem?_map, List.getElem?_eq_getElem hi]; rfl
theorem getDe {α : Type} {ss : List α} {x : α} {i : Nat} (hi : i < ss.length) : ss.getD i x = ss[i] := by
  rw [List.getD_eq_getElem?_getD, List.getElem?_eq_getElem hi]; rfl
theorem range_map {α β : Type} (x : α) (f : α → β) (ss : List α) : (List.range ss.length).map (fun i => f (ss.getD i x)) = ss.map f := by
  refine List.ext_getElem (by simp) fun i h1 h2 => ?_
  have hi : i < ss.length := by simpa using h1
  simp only [List.getElem_map, List.getElem_range]
  rw [getDe hi]
theorem range_filter {α β : Type} (x : α) (c : α → Bool) (f : α → β) (ss : List α) : ((List.range ss.length).filter fun i => c (ss.getD i x)).map (fun i => f (ss.getD i x)) = (ss.filter c).map f := by
  have h := range_map x id ss
  rw [List.map_id] at h
  conv => rhs; rw [← h]
  rw [List.filter_map, List.map_map]
  rfl
theorem head_of {α : Type} {xs : List α} (h : xs ≠ []) : ∃ v ∈ xs, atI xs 0 = some v := by
  have hp := List.length_pos_iff.mpr h
  refine ⟨xs[0], List.getElem_mem _, ?_⟩
  unfold atI ixN
  rw [if_pos (by omega), if_pos (by omega), Option.bind_some]
  exact List.getElem?_eq_getElem hp
theorem atI_map {α β : Type} (f : α → β) (xs : List α) (i : Int) : atI (xs.map f) i = (atI xs i).map f := by
  unfold atI
  rw [List.length_map]
  cases ixN xs.length i with
  | none => rfl
  | some j => rw [Option.bind_some, Option.bind_some, List.getElem?_map]
theorem ext_len {ss : List Str} (h : ss.length ≤ 3) (l : List (List Str)) : (l.flatMap fun v => ss.map fun t => v ++ [t]).length ≤ l.length * 3 := by
  induction l with
  | nil => simp
  | cons a l ih =>
    rw [List.flatMap_cons, List.length_append, List.length_map, List.length_cons]
    omega
theorem lay_le {ss : List Str} (h : ss.length ≤ 3) {t : Nat} (ht : t ≤ 3) : (layW ss t).length ≤ 27 := by
  rw [lay_len]
  exact Nat.le_trans (Nat.pow_le_pow_left h t) (Nat.le_trans (Nat.pow_le_pow_right (by decide) ht) (by decide))
theorem alph_at {k : Nat} (h : k < 26) : ∃ c ∈ alph.cps.toList, atI alph.cps.toList ((k : Nat) : Int) = some c := by
  have hl : alph.cps.toList.length = 26 := by decide +kernel
  have hk : k < alph.cps.toList.length := by omega
  refine ⟨alph.cps.toList[k], List.getElem_mem hk, ?_⟩
  unfold atI ixN
  rw [if_pos (by omega), if_pos (by omega), Option.bind_some, Int.toNat_natCast, List.getElem?_eq_getElem hk]
theorem alph_nodup : alph.cps.toList.Nodup := by decide +kernel
theorem alph_size : alph.length ≤ sizeLine := sz (by decide +kernel)
theorem atW {k : List Str} {i : Nat} (hi : i < k.length) : atI (k.map D.str) ((i : Nat) : Int) = some (.str k[i]) := by
  unfold atI ixN
  rw [if_pos (by omega), List.length_map, if_pos (by omega), Option.bind_some, List.getElem?_map, Int.toNat_natCast, List.getElem?_eq_getElem hi]
  rfl
def one (i : Nat) : Str := ⟨#[alph.cps.toList.getD i 0]⟩
theorem one_at {i : Nat} (h : i < 26) : atI alph.cps.toList ((i : Nat) : Int) = some (alph.cps.toList.getD i 0) := by
  obtain ⟨c, _, e⟩ := alph_at h
  have hl : alph.cps.toList.length = 26 := by decide +kernel
  rw [e]
  unfold atI ixN at e
  rw [if_pos (by omega), if_pos (by omega), Option.bind_some, Int.toNat_natCast] at e
  rw [List.getD_eq_getElem?_getD, e]
  rfl
theorem one_ok {i : Nat} (h : i < 26) : sgn (one i) = true := by
  refine one_sgn ?_
  have hl : alph.cps.toList.length = 26 := by decide +kernel
  rw [List.getD_eq_getElem?_getD, List.getElem?_eq_getElem (by omega)]
  exact List.getElem_mem _
theorem one_nodup {n : Nat} (h : n ≤ 4) : ((List.range (n + 1)).map one).Nodup := by
  rcases (by omega : n = 0 ∨ n = 1 ∨ n = 2 ∨ n = 3 ∨ n = 4) with rfl | rfl | rfl | rfl | rfl <;> decide +kernel
def six : List D := [.int 1, .int 1, .int 1, .int 2, .int 3, .int 8]
theorem six_in {d : D} (h : d ∈ six) : ∃ q : Nat, d = .int (q : Nat) ∧ 1 ≤ q ∧ q ≤ 8 := by
  unfold six at h
  simp only [List.mem_cons, List.not_mem_nil, or_false] at h
  rcases h with rfl | rfl | rfl | rfl | rfl | rfl
  · exact ⟨1, rfl, by decide, by decide⟩
  · exact ⟨1, rfl, by decide, by decide⟩
  · exact ⟨1, rfl, by decide, by decide⟩
  · exact ⟨2, rfl, by decide, by decide⟩
  · exact ⟨3, rfl, by decide, by decide⟩
  · exact ⟨8, rfl, by decide, by decide⟩
theorem sum_ones : ∀ ys : List Str, (∀ y ∈ ys, ∃ c ∈ alph.cps.toList, y = ⟨#[c]⟩) → (ys.map (·.length)).sum = ys.length
  | [], _ => rfl
  | y :: ys, h => by
    obtain ⟨c, _, rfl⟩ := h y (List.mem_cons_self ..)
    rw [List.map_cons, List.sum_cons, sum_ones ys fun y hy => h y (List.mem_cons_of_mem _ hy), List.length_cons]
    show 1 + ys.length = _
    omega
theorem last_of {ss : List Str} (h : ss ≠ []) : ∃ x ∈ ss, atI (ss.map D.str) (-1) = some (.str x) := by
  have hp := List.length_pos_iff.mpr h
  refine ⟨ss[ss.length - 1]'(by omega), List.getElem_mem _, ?_⟩
  unfold atI ixN
  rw [if_neg (by omega), List.length_map, if_pos (by omega), Option.bind_some, List.getElem?_map]
  rw [show ((-1 : Int) + (ss.length : Int)).toNat = ss.length - 1 by omega, List.getElem?_eq_getElem (by omega)]
  rfl
theorem strs_inj {xs ys : List Str} (h : xs.map D.str = ys.map D.str) : xs = ys := wd_inj (show wd xs = wd ys by unfold wd; rw [h])
theorem lstW_inj {ws us : List (List Str)} (h : [D.lst (ws.map wd)] = [D.lst (us.map wd)]) : ws = us := wds_inj (D.lst.inj (List.cons.inj h).1)
theorem last_at {α : Type} {os : List α} (h : os ≠ []) : atI os (-1) = some (os.getLast h) := by
  have hp := List.length_pos_iff.mpr h
  unfold atI ixN
  rw [if_neg (by omega), if_pos (by omega), Option.bind_some, show ((-1 : Int) + (os.length : Int)).toNat = os.length - 1 by omega, List.getLast_eq_getElem, List.getElem?_eq_getElem (by omega)]
theorem head_at {k : List Str} (h : 0 < k.length) : atI (k.map D.str) 0 = some (.str (k.headD "")) := by
  cases k with
  | nil => cases h
  | cons x k =>
    rw [atI_map]
    unfold atI ixN
    rw [if_pos (by omega), if_pos (by simp; try omega), Option.bind_some]
    rfl
section
variable {K : PySem.W.Frag} {newId : String} {bm : List Value} {C : Addr} {txt : Str} {vs : List V} {H : Hp} {Q : VK} {E : XK}
theorem rd2 {n0 n1 n2 f g : Str} (T : OxB K C newId bm) (hf : PySem.W.findIn K (.ref C) f = some none) (hg : PySem.W.findIn K (.ref C) g = some none) (h : spXI C [f, g] vs H Q E) :
    tSeq (tDrop (tBin K newId bm (tCons (tVar 0) (tCons (tC (.str txt)) tNil)))) (tSeq (tOset K newId bm f (tVar 0) (tVar 1)) (tOset K newId bm g (tVar 0) (tVar 2))) { nx := fun _ H' => Q .non H', rt := Q } (L2.start [n0, n1, n2] vs) H := by
  obtain ⟨a, us, rfl, hl, ha, k⟩ := h
  obtain ⟨v, u, rfl⟩ : ∃ v u, us = [v, u] := by
    match us, hl with
    | [v, u], _ => exact ⟨v, u, rfl⟩
  refine ⟨.ref a, rfl, a, C, [.str txt], rfl, by simp, T, ha, v, rfl, .ref a, rfl, a, C, rfl, T, hf, .inl ⟨ha, fun dx n ne => ?_⟩⟩
  refine ⟨u, rfl, .ref a, rfl, a, C, rfl, T, hg, .inr ⟨dx, [(f, v)], upd_same, by rw [upd_ne ne, upd_same], by simp, ?_⟩⟩
  refine k _ (fun b o hb e => ?_) (fun b ps e => ?_) ?_
  · rw [upd_ne (ne_of_none e n), upd_ne hb, upd_ne (ne_of_none e n)]; exact e
  · by_cases hd : b = dx
    · rw [hd, upd_same] at e
      cases e
    · rw [upd_ne hd] at e
      by_cases hb : b = a
      · rw [hb, upd_same] at e
        exact absurd (Option.some.inj e) exo_tbl
      · rwa [upd_ne hb, upd_ne hd] at e
  · rw [if_neg (by simp)]
    exact ⟨dx, n, by rw [upd_ne (Ne.symm ne), upd_same], by rw [upd_same]; rfl⟩
end
theorem pi_listK {X : Cx} {K : PySem.W.Frag} {tg l : Expr} {tl : TE} (hK : X.K = K) (hl : PE X l tl) : PI X tg l (iList K tl) := by
  subst hK
  exact pi_list hl
theorem pi_tupK {X : Cx} {K : PySem.W.Frag} {tg l : Expr} {tl : TE} (hK : X.K = K) (hl : PE X l tl) : PI X tg l (iTup K tl) := by
  subst hK
  exact pi_tup hl
theorem pi_LTK {X : Cx} {K : PySem.W.Frag} {tg l : Expr} {tl : TE} (hK : X.K = K) (hl : PE X l tl) : PI X tg l (iLT K tl) := by
  subst hK
  exact pi_LT hl
theorem x_norm {z : Zp} {ts : TS} {ρ ρ' : List Sl} {out : Out} (e : ρ = ρ') (h : X1 z ts ρ' out) : X1 z ts ρ out := e ▸ h
end PD

set_option Elab.async false
set_option linter.all false
set_option maxRecDepth 100000
set_option maxHeartbeats 4000000
/-! PI17: < of tuples of words, pairs of two lists, dicts of pairs, more of own operators, own classes made with defaults. -/
namespace PD
open PySem PySem.Spec PyProof.Rows L2 PySem.W RZ
/-! ### < of words, of rows of words -/
def wbef (k l : List Str) : Bool := dataLt (.tuple (k.map .str)) (.tuple (l.map .str))
def lbef (os us : List (List Str)) : Bool := dataLt (.tuple (os.map WS.enc)) (.tuple (us.map WS.enc))
theorem eqv_encs (k l : List Str) : PyData.eqv (WS.enc k) (WS.enc l) = decide (k = l) := by
  unfold WS.enc
  simp only [PyData.eqv, eqv_strs]
theorem eqv_str (x y : Str) : PyData.eqv (.str x) (.str y) = decide (x = y) := by
  have := eqv_strs [x] [y]
  simpa [PyData.eqvAll] using this
theorem wbef_nil (l : List Str) : wbef [] l = !l.isEmpty := by
  unfold wbef
  rw [dataLt_tuple]
  cases l with
  | nil => exact lex_irrefl _
  | cons y l =>
    rw [List.map_cons, List.map_nil]
    simp only [keyToksAll, keyToks]
    rw [lex_diff (O := itemOrd) (by simp)]
    rfl
theorem wbef_cons_nil (x : Str) (k : List Str) : wbef (x :: k) [] = false := by
  unfold wbef
  rw [dataLt_tuple, List.map_cons, List.map_nil]
  simp only [keyToksAll, keyToks]
  rw [lex_diff (O := itemOrd) (by simp)]
  rfl
theorem wbef_cons (x y : Str) (k l : List Str) : wbef (x :: k) (y :: l) = if x = y then wbef k l else decide (x.cps.toList < y.cps.toList) := by
  unfold wbef
  rw [dataLt_tuple, dataLt_tuple, List.map_cons, List.map_cons]
  by_cases e : x = y
  · rw [if_pos e, dataLt_all_yes (by simp [alike]) (by rw [eqv_str, decide_eq_true e])]
  · rw [if_neg e, dataLt_all_no (by simp [alike]) (by rw [eqv_str, decide_eq_false e]), dataLt_str]
theorem lbef_nil : lbef [] [] = false := by
  unfold lbef
  rw [dataLt_tuple]
  exact lex_irrefl _
theorem lbef_cons (k l : List Str) (os us : List (List Str)) : lbef (k :: os) (l :: us) = if k = l then lbef os us else wbef k l := by
  unfold lbef
  rw [dataLt_tuple, dataLt_tuple, List.map_cons, List.map_cons]
  by_cases e : k = l
  · rw [if_pos e, dataLt_all_yes (WS.alike_enc k l) (by rw [eqv_encs, decide_eq_true e])]
  · rw [if_neg e, dataLt_all_no (WS.alike_enc k l) (by rw [eqv_encs, decide_eq_false e])]
    rfl
theorem lbef_irrefl (os : List (List Str)) : lbef os os = false := by
  unfold lbef
  rw [dataLt_tuple]
  exact lex_irrefl _
theorem lbef_trans {os us ws : List (List Str)} (h : lbef os us = true) (g : lbef us ws = true) : lbef os ws = true := by
  unfold lbef at *
  rw [dataLt_tuple] at *
  exact lex_trans _ _ _ h g
theorem wbef_tri : ∀ {k l : List Str}, k ≠ l → wbef k l = true ∨ wbef l k = true
  | [], [], h => absurd rfl h
  | [], y :: l, _ => .inl (by rw [wbef_nil]; rfl)
  | x :: k, [], _ => .inr (by rw [wbef_nil]; rfl)
  | x :: k, y :: l, h => by
    rw [wbef_cons, wbef_cons]
    by_cases e : x = y
    · subst e
      simp only [if_true]
      exact wbef_tri fun e => h (by rw [e])
    · rw [if_neg e, if_neg (fun q => e q.symm), decide_eq_true_eq, decide_eq_true_eq]
      exact str_tri e
theorem lbef_tri : ∀ {os us : List (List Str)}, os.length = us.length → os ≠ us → lbef os us = true ∨ lbef us os = true
  | [], [], _, h => absurd rfl h
  | [], _ :: _, h, _ => by simp at h
  | _ :: _, [], h, _ => by simp at h
  | k :: os, l :: us, hl, h => by
    rw [lbef_cons, lbef_cons]
    by_cases e : k = l
    · subst e
      simp only [if_true]
      exact lbef_tri (by simpa using hl) fun e => h (by rw [e])
    · rw [if_neg e, if_neg (fun q => e q.symm)]
      exact wbef_tri e
theorem alike_encs : ∀ os us : List (List Str), alikeAll (os.map WS.enc) (us.map WS.enc) = true
  | [], _ => by simp [alikeAll]
  | _ :: _, [] => by simp [alikeAll]
  | k :: os, l :: us => by simp [alikeAll, WS.alike_enc, alike_encs os us]
theorem alike_str (x y : Str) : alike (.str x) (.str y) = true := by simp [alike]
def rLtD (K : PySem.W.Frag) : R2 := fun x y H Q => ∃ d e, Dp K H x d ∧ Dp K H y e ∧ alike d e = true ∧ d ≠ .none ∧ d.depth ≤ 60 ∧ Q (.bl (dataLt d e)) H
theorem op_ltD {X : Cx} (hu : X.A.units + 65 < cLine) : OpR X (compareOp .Lt) (rLtD X.K) := by
  intro pins s σ H x y v u Q I rx ry h
  obtain ⟨d, e, hd, he, al, nn, dp, q⟩ := h
  obtain ⟨as, r1⟩ := Dp.reads I d x v hd rx
  obtain ⟨bs, r2⟩ := Dp.reads I e y u he ry
  exact rcLt_alike d e X.A s v u as bs r1 r2 al nn (by omega) X.prog X.w _ _ ⟨.bl _, H, I, rfl, q⟩
section
variable {z : Zp} {P : D → Prop} {K : PySem.W.Frag}
theorem depth_encs : ∀ ws : List (List Str), PyData.depthAll (ws.map WS.enc) ≤ 1
  | [] => by simp [PyData.depthAll]
  | k :: ws => by
    have := depth_encs ws
    simp only [List.map_cons, PyData.depthAll, WS.depth_enc]
    omega
theorem o_ltWs {os us : List (List Str)} (h1 : okWs os) (h2 : okWs us) (q : P (.bl (lbef os us))) : O2 z (rLtD K) (.tup (os.map wd)) (.tup (us.map wd)) P := fun hs x y H p rx ry Q w => by
  have e1 : ∀ {ws : List (List Str)}, okWs ws → ∀ (v : V), R z (hid z hs H) v (.tup (ws.map wd)) → Dp K H v (.tuple (ws.map WS.enc)) := fun {ws} hw v r => by
    have h1 := R.dp (K := K) _ _ (by simp only [isPy, isPyA_wds]) (SeqAt.canLay_of_shaped (shaped_wdsT hw)) (R.mono hid_sub _ _ r)
    have h2 : Dp K H v (.tuple (ws.map fun k => PyData.tuple (k.map .str))) := by simpa only [py, pyA_wds] using h1
    exact h2
  refine ⟨_, _, e1 h1 _ rx, e1 h2 _ ry, by simp [alike, alike_encs], by simp, ?_, w.here p (.bl _) q⟩
  have := depth_encs os
  simp only [PyData.depth]
  omega
/-! ### zip -/
theorem i_zipA {ta : TA} {ρ : List (Option D)} {PI : Nat → (Nat → D) → Prop} (h : EA z ta ρ fun es => ∃ ds fs, (es = [.lst ds, .lst fs] ∨ es = [.tup ds, .tup fs]) ∧ PI (min ds.length fs.length) fun i => .tup [ds.getD i .non, fs.getD i .non]) : EI z (iZipA K ta) ρ PI := fun hs σ H p s Rr w =>
  h hs σ H p s _ fun vs H1 ds e1 p1 rs ⟨ds, fs, ed, q⟩ => by
    rcases ed with ed | ed
    · subst ed
      cases rs with
      | cons r rs =>
      cases rs with
      | cons r2 rs =>
      cases rs
      cases r with
      | @lst a xs _ h1 h2 =>
      cases r2 with
      | @lst b ys _ g1 g2 =>
      refine ⟨a, b, xs, ys, rfl, .inl ⟨.inl (.inl (hid_sub a _ h1)), .inl (.inl (hid_sub b _ g1)), w _ H1 _ _ e1 p1 (fun hs' H' p' k i => ?_) q⟩⟩
      obtain ⟨m1, m2, h1⟩ := hid_some h1
      obtain ⟨l1, l2, g1⟩ := hid_some g1
      have hq : SqL K H' a xs := .inl (.inl (k a _ m1 m2 h1).1)
      have hq2 : SqL K H' b ys := .inl (.inl (k b _ l1 l2 g1).1)
      refine ⟨fun hi => ?_, fun hi => ⟨xs, ys, hq, hq2, by rw [h2.length, g2.length]; omega⟩⟩
      have hi' : i < xs.length := by rw [h2.length]; omega
      have hj' : i < ys.length := by rw [g2.length]; omega
      refine ⟨⟨xs, ys, xs[i], ys[i], hq, hq2, List.getElem?_eq_getElem hi', List.getElem?_eq_getElem hj'⟩, fun x H2 ⟨T, x1, y1, ex, n, e, gx, gy⟩ => ?_⟩
      subst e
      subst ex
      refine ⟨Ex.new n, p'.new n, ?_⟩
      obtain ⟨d, hd, r⟩ := h2.get (gx xs hq)
      obtain ⟨d2, hd2, r2⟩ := g2.get (gy ys hq2)
      rw [List.getD_eq_getElem?_getD, hd, List.getD_eq_getElem?_getD, hd2]
      obtain ⟨n1, n2⟩ := p'.off n
      have up : Ex (hid z hs H1) (hid z hs' (upd H' T (.tup [x1, y1]))) := (R.off k).trans (exz_hid (ExZ.new n))
      exact .tup (a := T) (by rw [hid_ne n1 n2, upd_same]) (.cons (R.mono up _ _ r) (.cons (R.mono up _ _ r2) .nil))
    · subst ed
      cases rs with
      | cons r rs =>
      cases rs with
      | cons r2 rs =>
      cases rs
      cases r with
      | @tup a xs _ h1 h2 =>
      cases r2 with
      | @tup b ys _ g1 g2 =>
      refine ⟨a, b, xs, ys, rfl, .inr ⟨.inl (.inl (hid_sub a _ h1)), .inl (.inl (hid_sub b _ g1)), w _ H1 _ _ e1 p1 (fun hs' H' p' k i => ?_) q⟩⟩
      obtain ⟨m1, m2, h1⟩ := hid_some h1
      obtain ⟨l1, l2, g1⟩ := hid_some g1
      have hq : SqT K H' a xs := .inl (.inl (k a _ m1 m2 h1).1)
      have hq2 : SqT K H' b ys := .inl (.inl (k b _ l1 l2 g1).1)
      refine ⟨fun hi => ?_, fun hi => ⟨xs, ys, hq, hq2, by rw [h2.length, g2.length]; omega⟩⟩
      have hi' : i < xs.length := by rw [h2.length]; omega
      have hj' : i < ys.length := by rw [g2.length]; omega
      refine ⟨⟨xs, ys, xs[i], ys[i], hq, hq2, List.getElem?_eq_getElem hi', List.getElem?_eq_getElem hj'⟩, fun x H2 ⟨T, x1, y1, ex, n, e, gx, gy⟩ => ?_⟩
      subst e
      subst ex
      refine ⟨Ex.new n, p'.new n, ?_⟩
      obtain ⟨d, hd, r⟩ := h2.get (gx xs hq)
      obtain ⟨d2, hd2, r2⟩ := g2.get (gy ys hq2)
      rw [List.getD_eq_getElem?_getD, hd, List.getD_eq_getElem?_getD, hd2]
      obtain ⟨n1, n2⟩ := p'.off n
      have up : Ex (hid z hs H1) (hid z hs' (upd H' T (.tup [x1, y1]))) := (R.off k).trans (exz_hid (ExZ.new n))
      exact .tup (a := T) (by rw [hid_ne n1 n2, upd_same]) (.cons (R.mono up _ _ r) (.cons (R.mono up _ _ r2) .nil))
/-! ### dict(pairs), d[k] -/
abbrev rDictP (K : PySem.W.Frag) : List V → Hp → VK → Prop := fun xs H Q => ∃ (a : Addr) (ps : List Addr) (kvs : List (Key × V)), xs = [.ref a] ∧ SqL K H a (ps.map V.ref) ∧ Paired (fun p kv => SqT K H p [kV kv.1, kv.2]) ps kvs ∧
    ∀ p, H p = none → Q (.ref p) (upd H p (.dK (mergeK [] kvs)))
def prD (ps : List (Str × D)) : List D := ps.map fun p => .tup [.str p.1, p.2]
def dcD (ps : List (Str × D)) : D := .dct (ps.map fun p => (.inr p.1, p.2))
theorem pairs_at {H : Hp} {hs : Addr → Prop} : ∀ {ps : List (Str × D)} {vs : List V}, RA z (hid z hs H) vs (prD ps) → ∃ (as : List Addr) (kvs : List (Key × V)), vs = as.map V.ref ∧ Paired (fun p kv => SqT K H p [kV kv.1, kv.2]) as kvs ∧ RK z (hid z hs H) kvs (ps.map fun p => (.inr p.1, p.2)) ∧ kvs.map (·.1) = ps.map fun p => .inr p.1
  | [], vs, h => by
    cases h
    exact ⟨[], [], rfl, .nil, .nil, rfl⟩
  | (x, d) :: ps, vs, h => by
    cases h with
    | cons r rs =>
      obtain ⟨as, kvs, rfl, h1, h2, h3⟩ := pairs_at rs
      cases r with
      | tup g1 g2 =>
        cases g2 with
        | cons q1 q2 =>
        cases q2 with
        | cons q2 q3 =>
        cases q3
        cases q1
        exact ⟨_ :: as, (.inr x, _) :: kvs, rfl, .cons (.inl (.inl (hid_sub _ _ g1))) h1, .cons q2 h2, by rw [List.map_cons, List.map_cons, h3]⟩
theorem merge_nodup : ∀ {kvs acc : List (Key × V)}, (acc.map (·.1) ++ kvs.map (·.1)).Nodup → mergeK acc kvs = acc ++ kvs
  | [], acc, _ => by simp [mergeK]
  | kv :: kvs, acc, h => by
    have e1 : putK acc kv.1 kv.2 = acc ++ [kv] := by
      unfold putK
      rw [if_neg]
      intro hc
      obtain ⟨q, hq, he⟩ := List.any_eq_true.mp hc
      have he := of_decide_eq_true he
      rw [List.map_cons] at h
      have := (List.nodup_append.mp h).2.2 q.1 (List.mem_map.mpr ⟨q, hq, rfl⟩) kv.1 (List.mem_cons_self ..)
      exact this he
    show mergeK (putK acc kv.1 kv.2) kvs = _
    rw [e1, merge_nodup (by simpa using h)]
    simp
theorem o_dictP {ps : List (Str × D)} (nd : (ps.map (·.1)).Nodup) (q : P (dcD ps)) : OC z (rDictP K) [.lst (prD ps)] P := fun hs vs H p rs Q w => by
  cases rs with
  | cons r rs =>
    cases rs
    cases r with
    | lst g1 g2 =>
      obtain ⟨as, kvs, rfl, h1, h2, h3⟩ := pairs_at (K := K) g2
      refine ⟨_, as, kvs, rfl, .inl (.inl (hid_sub _ _ g1)), h1, fun a n => ?_⟩
      have e : mergeK [] kvs = kvs := by
        rw [merge_nodup, List.nil_append]
        rw [List.map_nil, List.nil_append, h3]
        have := List.Pairwise.map (S := fun a b : Key => a ≠ b) (fun x : Str => (Sum.inr x : Key)) (fun a b hab e => hab (Sum.inr.inj e)) nd
        rwa [List.map_map] at this
      rw [e]
      exact new_w w p n (fun H' ha ex => .dct ha (RK.mono ex _ _ h2)) q
theorem valV_at {G : Hp} {x : Str} {d : D} : ∀ {ps : List (Str × D)} {kvs : List (Key × V)}, RK z G kvs (ps.map fun p => (.inr p.1, p.2)) → ps.lookup x = some d → ∃ v, valV kvs (.inr x) = some v ∧ R z G v d
  | [], _, _, h => by cases h
  | (y, e) :: ps, kvs, r, h => by
    cases r with
    | cons r1 r2 =>
      rw [List.lookup_cons] at h
      by_cases q : x = y
      · subst q
        rw [beq_self_eq_true] at h
        cases h
        exact ⟨_, valV_pos rfl, r1⟩
      · rw [show (x == y) = false by simpa using q] at h
        obtain ⟨v, h1, h2⟩ := valV_at r2 h
        exact ⟨v, by rw [valV_neg (fun e => q (Sum.inr.inj e).symm)]; exact h1, h2⟩
theorem e_dget {td ty : TE} {ρ : List (Option D)} (h : E1 z td ρ fun d => E1 z ty ρ fun k => ∃ (ps : List (Str × D)) (x : Str) (e : D), d = dcD ps ∧ k = .str x ∧ ps.lookup x = some e ∧ P e) : E1 z (tDGet td ty) ρ P := fun hs σ H p s Q w =>
  h hs σ H p s _ fun v H1 d e1 p1 rv h1 => h1 hs σ H1 p1 (s.mono (exz_hid e1)) _ fun u H2 k e2 p2 ru ⟨ps, x, e, hd, hk, hl, q⟩ => by
    subst hd hk
    cases ru
    cases rv with
    | dct g1 g2 =>
      obtain ⟨y, h3, h4⟩ := valV_at g2 hl
      refine ⟨_, y, rfl, ?_, w _ H2 _ (e1.trans e2) p2 (R.mono (exz_hid e2) _ _ h4) q⟩
      obtain ⟨m1, m2, g1⟩ := hid_some g1
      have g3 := e2 _ _ m1 g1
      have := DGet.k (k := .inr x) g3
      rw [h3] at this
      exact this
end
end PD

set_option Elab.async false
set_option linter.all false
set_option maxRecDepth 100000
set_option maxHeartbeats 4000000
/-! PI18: a default that is the empty tuple. -/
namespace PD
open PySem PySem.Spec PyProof.Rows L2
/-- the empty tuple among what is leant on -/
def KT0 (K : PySem.W.Frag) (a : Addr) : Prop := ∃ (o : Obj) (n : Nat), K.lookup a = some o ∧ o.cls = .type "tuple" ∧ o.data = .seq #[] n
theorem KT0.sq {K : PySem.W.Frag} {a : Addr} (h : KT0 K a) (H : Hp) : SqT K H a [] := by
  obtain ⟨o, n, l, c, d⟩ := h
  exact .inr ⟨o, #[], n, l, c, d, Nat.zero_le _, .nil⟩
theorem KT0.ty {K : PySem.W.Frag} {a : Addr} (h : KT0 K a) (H : Hp) : TyX K H (.ref a) (.type "tuple") := by
  obtain ⟨o, n, l, c, d⟩ := h
  exact .kTuple l c
/-- words told by a list, a tuple, or not at all -/
def SqK (K : PySem.W.Frag) (d : D) (ws : List (List Str)) : Prop := (d = .lst (ws.map wd) ∨ d = .tup (ws.map wd)) ∨ (ws = [] ∧ ∃ a, d = .raw (.ref a) ∧ KT0 K a)
theorem SqK.inj {K : PySem.W.Frag} {d : D} {ws us : List (List Str)} (h : SqK K d ws) (g : SqK K d us) : ws = us := by
  rcases h with (rfl | rfl) | ⟨rfl, a, rfl, _⟩ <;> rcases g with (g | g) | ⟨rfl, b, g, _⟩
  · exact wds_inj (D.lst.inj g)
  · cases g
  · cases g
  · cases g
  · exact wds_inj (D.tup.inj g)
  · cases g
  · cases g
  · cases g
  · rfl
section
variable {z : Zp} {K : PySem.W.Frag} {P : D → Prop} {ρ : List (Option D)}
theorem o_isLTK {a : Addr} (h : KT0 K a) (q : P (.bl true)) : OC z (rIsiT K) [.raw (.ref a), .tup [.raw (.ty "list"), .raw (.ty "tuple")]] P := fun hs xs H p rs Q w => by
  cases rs with
  | cons r rs =>
    cases rs with
    | cons r2 rs =>
      cases rs
      cases r
      cases r2 with
      | tup h1 h2 =>
        cases h2 with
        | cons k1 h2 =>
          cases h2 with
          | cons k2 h2 =>
            cases h2
            cases k1
            cases k2
            refine ⟨_, _, _, _, [.type "list", .type "tuple"], true, rfl, hid_sub _ _ h1, .cons (.ty "list") (.cons (.ty "tuple") .nil), h.ty H, ?_, w.here p (.bl _) q⟩
            have hb : kitB "tuple" "list" = some false := kit_lst (d := .tup []) rfl
            have hc : kitB "tuple" "tuple" = some true := kit_tup (d := .tup []) rfl
            refine kitAny_cons (kit_ty hb) (fun _ => ?_) fun e => by cases e
            exact kitAny_cons (kit_ty hc) (fun e => by cases e) fun _ => rfl
theorem o_isLTW {d : D} {ws : List (List Str)} (h : SqK K d ws) (q : P (.bl true)) : OC z (rIsiT K) [d, .tup [.raw (.ty "list"), .raw (.ty "tuple")]] P := by
  rcases h with (rfl | rfl) | ⟨_, a, rfl, k⟩
  · exact o_isLT rfl q
  · exact o_isLT rfl q
  · exact o_isLTK k q
theorem i_enumW {ta : TA} {PI : Nat → (Nat → D) → Prop} (h : EA z ta ρ fun es => ∃ d ws, es = [d] ∧ SqK K d ws ∧ PI ws.length fun i => .tup [.int (i : Nat), (ws.map wd).getD i .non]) : EI z (iEnumLT K ta) ρ PI := fun hs σ H p s Rr w =>
  h hs σ H p s _ fun vs H1 es e1 p1 rs ⟨d, ws, he, hq, q⟩ => by
    rcases hq with hq | ⟨rfl, a, rfl, k⟩
    · have he : es = [.lst (ws.map wd)] ∨ es = [.tup (ws.map wd)] := hq.imp (fun h => by rw [he, h]) fun h => by rw [he, h]
      have q : PI (ws.map wd).length fun i => .tup [.int (i : Nat), (ws.map wd).getD i .non] := by rw [List.length_map]; exact q
      generalize ws.map wd = ds at he q
      rcases he with rfl | rfl
      · cases rs with
        | cons r rs =>
          cases rs
          cases r with
          | @lst a xs _ h1 h2 =>
            refine ⟨a, xs, rfl, .inl ⟨.inl (.inl (hid_sub _ _ h1)), w _ H1 _ _ e1 p1 (fun hs' H' p' k i => ?_) q⟩⟩
            obtain ⟨m1, m2, h1⟩ := hid_some h1
            have hq : SqL K H' a xs := .inl (.inl (k a _ m1 m2 h1).1)
            refine ⟨fun hi => ?_, fun hi => ⟨xs, hq, by rw [h2.length]; exact hi⟩⟩
            have hi' : i < xs.length := by rw [h2.length]; exact hi
            refine ⟨⟨xs, xs[i], hq, List.getElem?_eq_getElem hi'⟩, fun x H2 ⟨T, y, ex, n, e, g⟩ => ?_⟩
            subst e
            subst ex
            refine ⟨Ex.new n, p'.new n, ?_⟩
            obtain ⟨d, hd, r⟩ := h2.get (g xs hq)
            rw [List.getD_eq_getElem?_getD, hd]
            obtain ⟨n1, n2⟩ := p'.off n
            refine .tup (a := T) (by rw [hid_ne n1 n2, upd_same]) (.cons (.int _) (.cons (R.mono ?_ _ _ r) .nil))
            exact (R.off k).trans (exz_hid (ExZ.new n))
      · cases rs with
        | cons r rs =>
          cases rs
          cases r with
          | @tup a xs _ h1 h2 =>
            refine ⟨a, xs, rfl, .inr ⟨.inl (.inl (hid_sub _ _ h1)), w _ H1 _ _ e1 p1 (fun hs' H' p' k i => ?_) q⟩⟩
            obtain ⟨m1, m2, h1⟩ := hid_some h1
            have hq : SqT K H' a xs := .inl (.inl (k a _ m1 m2 h1).1)
            refine ⟨fun hi => ?_, fun hi => ⟨xs, hq, by rw [h2.length]; exact hi⟩⟩
            have hi' : i < xs.length := by rw [h2.length]; exact hi
            refine ⟨⟨xs, xs[i], hq, List.getElem?_eq_getElem hi'⟩, fun x H2 ⟨T, y, ex, n, e, g⟩ => ?_⟩
            subst e
            subst ex
            refine ⟨Ex.new n, p'.new n, ?_⟩
            obtain ⟨d, hd, r⟩ := h2.get (g xs hq)
            rw [List.getD_eq_getElem?_getD, hd]
            obtain ⟨n1, n2⟩ := p'.off n
            refine .tup (a := T) (by rw [hid_ne n1 n2, upd_same]) (.cons (.int _) (.cons (R.mono ?_ _ _ r) .nil))
            exact (R.off k).trans (exz_hid (ExZ.new n))
    · subst he
      cases rs with
      | cons r rs =>
        cases rs
        cases r
        refine ⟨a, [], rfl, .inr ⟨k.sq H1, w _ H1 0 (fun i => .tup [.int (i : Nat), (([] : List (List Str)).map wd).getD i .non]) e1 p1 (fun hs' H' p' kk i => ?_) q⟩⟩
        refine ⟨fun hi => absurd hi (Nat.not_lt_zero _), fun hi => ⟨[], k.sq H', Nat.zero_le _⟩⟩
theorem i_LTW {tl : TE} {PI : Nat → (Nat → D) → Prop} (h : E1 z tl ρ fun d => ∃ ws, SqK K d ws ∧ PI ws.length fun i => (ws.map wd).getD i .non) : EI z (iLT K tl) ρ PI := fun hs σ H p s Rr w =>
  h hs σ H p s _ fun v H1 d e1 p1 r ⟨ws, hq, q⟩ => by
    rcases hq with ed | ⟨rfl, a, rfl, k⟩
    · have q : PI (ws.map wd).length fun i => (ws.map wd).getD i .non := by rw [List.length_map]; exact q
      generalize ws.map wd = ds at ed q
      rcases ed with ed | ed
      · subst ed
        cases r with
        | @lst a xs _ h1 h2 =>
          refine ⟨a, rfl, .inl ⟨⟨xs, .inl (.inl (hid_sub a _ h1))⟩, w _ H1 _ _ e1 p1 (fun hs' H' p' k i => ?_) q⟩⟩
          obtain ⟨m1, m2, h1⟩ := hid_some h1
          have hq : SqL K H' a xs := .inl (.inl (k a _ m1 m2 h1).1)
          refine ⟨fun hi => ?_, fun hi => ⟨xs, hq, by rw [h2.length]; exact hi⟩⟩
          have hi' : i < xs.length := by rw [h2.length]; exact hi
          refine ⟨⟨xs, xs[i], hq, List.getElem?_eq_getElem hi'⟩, fun x H2 ⟨e, y⟩ => ?_⟩
          subst e
          refine ⟨fun _ _ q => q, p', ?_⟩
          obtain ⟨d, hd, r⟩ := h2.get (y xs hq)
          rw [List.getD_eq_getElem?_getD, hd]
          exact R.mono (R.off k) _ _ r
      · subst ed
        cases r with
        | @tup a xs _ h1 h2 =>
          refine ⟨a, rfl, .inr ⟨⟨xs, .inl (.inl (hid_sub a _ h1))⟩, w _ H1 _ _ e1 p1 (fun hs' H' p' k i => ?_) q⟩⟩
          obtain ⟨m1, m2, h1⟩ := hid_some h1
          have hq : SqT K H' a xs := .inl (.inl (k a _ m1 m2 h1).1)
          refine ⟨fun hi => ?_, fun hi => ⟨xs, hq, by rw [h2.length]; exact hi⟩⟩
          have hi' : i < xs.length := by rw [h2.length]; exact hi
          refine ⟨⟨xs, xs[i], hq, List.getElem?_eq_getElem hi'⟩, fun x H2 ⟨e, y⟩ => ?_⟩
          subst e
          refine ⟨fun _ _ q => q, p', ?_⟩
          obtain ⟨d, hd, r⟩ := h2.get (y xs hq)
          rw [List.getD_eq_getElem?_getD, hd]
          exact R.mono (R.off k) _ _ r
    · cases r
      refine ⟨a, rfl, .inr ⟨⟨[], k.sq H1⟩, w _ H1 0 (fun i => (([] : List (List Str)).map wd).getD i .non) e1 p1 (fun hs' H' p' kk i => ?_) q⟩⟩
      refine ⟨fun hi => absurd hi (Nat.not_lt_zero _), fun hi => ⟨[], k.sq H', Nat.zero_le _⟩⟩
end
/-! ### C() -/
section
variable {z : Zp} {ρ : List (Option D)} {P : D → Prop} {PX' : Addr → List (Str × D) → Prop} {Pre : List D → Prop} {Post : List D → List (Str × D) → Prop} {PX : List D → Addr → List (Str × D) → Prop} {C : Addr}
theorem ex_make0 {a0 : Addr} (hp : Pre [.raw (.ref a0)]) (hq : ∀ fs, Post [.raw (.ref a0)] fs → P (.obj C fs)) (hx : ∀ C' fs, PX [.raw (.ref a0)] C' fs → PX' C' fs) : E1X z (fun E => tMake C (spInit C 1 Pre Post PX) [.ref a0] E tNil) ρ P PX' := fun hs σ H p s E Q w x =>
  fun a dx ha hd hne => make_w p (.cons (.raw (.ref a0)) .nil) rfl hp w x hq hx a dx ha hd hne
end
/-- __init__ with one default, the empty tuple -/
structure MfD (K : PySem.W.Frag) (C : Addr) (m qual : Str) (st : Stmt) (ps : List Str) (f : Addr) (fd : FuncData) (a0 : Addr) : Prop extends MfE K C m qual st ps f fd where
  b0 : Binds K fd ps [.ref a0]
  k : KT0 K a0
theorem FunE.binds1 {K : PySem.W.Frag} {x qual : Str} {st : Stmt} {f : Addr} {fd : FuncData} {ps : List Str} {T a0 : Addr} {o : Obj} {m : Nat} (F : FunE K x qual st f fd) (e1 : fd.defaults = .ref T) (lT : K.lookup T = some o) (oT : o.data = .seq #[.ref a0] m)
    (h : ∀ (T : Addr) (kV doc pm : Value) (an : Option Addr) (cdv ct : Value) (us : List Value), us.length + 1 = ps.length →
      ∃ k, bindArgs (PySem.W.fnOf x qual (defArgs st) (defBody st) (defScope st) (.ref T) kV doc pm an cdv ct) ⟨us, []⟩ = seqItems? (.ref T) >>= k ∧ k (some #[.ref a0]) = pure (ps.zip (us ++ [.ref a0]))) : Binds K fd ps [.ref a0] := by
  obtain ⟨oc, od, dV, kV, doc, pm, an, cdv, ct, osl, rfl, lk, hcd⟩ := F.ex
  have e1 : dV = .ref T := e1
  subst e1
  intro s us X hlen
  obtain ⟨k, e1, e2⟩ := h T kV doc pm an cdv ct us (by simpa using hlen)
  refine BindsTo.of_looks fun M => ?_
  rw [e1]
  exact looks_items X lT oT (.of_pure e2)
end PD

set_option Elab.async false
set_option linter.all false
set_option maxRecDepth 100000
set_option maxHeartbeats 4000000
/-! PI19: fronts over three letters, as closed sets of words; their order. -/
namespace PD
open PySem PySem.Spec PyProof.Rows L2
structure Fr (ss : List Str) (os : List (List Str)) : Prop where
  srt : os.Pairwise wlt
  nil : [] ∈ os
  pre : ∀ k ∈ os, ∀ t, t <+: k → t ∈ os
  sub : ∀ k ∈ os, k ∈ over ss 3
theorem over_pre {ss : List Str} {n : Nat} {k t : List Str} (h : k ∈ over ss n) (p : t <+: k) : t ∈ over ss n := by
  obtain ⟨h1, h2⟩ := (mem_over ss n k).mp h
  refine (mem_over ss n t).mpr ⟨Nat.le_trans p.length_le h1, fun x hx => h2 x (p.subset hx)⟩
theorem over_nil (ss : List Str) (n : Nat) : [] ∈ over ss n := (mem_over ss n []).mpr ⟨Nat.zero_le _, fun _ h => by cases h⟩
theorem clo_sub {ss : List Str} {n : Nat} {ws : List (List Str)} (h : ∀ k ∈ ws, k ∈ over ss n) (k : List Str) (hk : k ∈ clo ws) : k ∈ over ss n := by
  rcases mem_clo.mp hk with rfl | ⟨w, hw, p⟩
  · exact over_nil ss n
  · exact over_pre (h w hw) p
theorem few_sub {ss : List Str} {ws : List (List Str)} (hs : ss.length ≤ 3) (h : ∀ k ∈ ws, k ∈ over ss 3) : ∀ us : List (List Str), us.Nodup → (∀ k ∈ us, k ∈ clo ws) → us.length < 64 := fun us nd hu => few_over hs (Nat.le_refl 3) nd fun k hk => clo_sub h k (hu k hk)
theorem few_sub0 {ss : List Str} {ws : List (List Str)} (hs : ss.length ≤ 3) (h : ∀ k ∈ ws, k ∈ over ss 3) : ∀ us : List (List Str), us.Nodup → (∀ k ∈ us, k ∈ ws) → us.length < 64 := fun us nd hu => few_over hs (Nat.le_refl 3) nd fun k hk => h k (hu k hk)
theorem Fr.of_ord {ss : List Str} {ws os : List (List Str)} (io : IsOrd (clo ws) os) (h : ∀ k ∈ ws, k ∈ over ss 3) : Fr ss os := by
  refine ⟨io.srt, (io.mem _).mpr (mem_clo.mpr (.inl rfl)), fun k hk t p => (io.mem _).mpr (mem_clo.mpr ?_), fun k hk => clo_sub h k ((io.mem k).mp hk)⟩
  rcases mem_clo.mp ((io.mem k).mp hk) with rfl | ⟨w, hw, q⟩
  · exact .inl (List.prefix_nil.mp p)
  · exact .inr ⟨w, hw, p.trans q⟩
theorem Fr.ext {ss tt : List Str} {os us : List (List Str)} (a : Fr ss os) (b : Fr tt us) (h : ∀ k, k ∈ os ↔ k ∈ us) : os = us := ord_unique a.srt b.srt h
theorem Fr.nodup {ss : List Str} {os : List (List Str)} (a : Fr ss os) : os.Nodup := (⟨a.srt, fun _ => Iff.rfl⟩ : IsOrd os os).nodup
theorem Fr.len {ss : List Str} {os : List (List Str)} (a : Fr ss os) (hs : ss.length ≤ 3) : os.length ≤ 40 := by
  have h1 := nodup_len a.nodup a.sub
  have h2 := over_len hs (Nat.le_refl 3)
  omega
theorem Fr.gw {ss : List Str} {os : List (List Str)} (a : Fr ss os) (hs : ∀ x ∈ ss, sgn x = true) : ∀ k ∈ os, gw k := fun k hk => over_gw hs (Nat.le_refl 3) k (a.sub k hk)
/-- what a closed list of words comes to -/
theorem Fr.make {ss : List Str} {ws os : List (List Str)} (io : IsOrd (clo ws) os) (h : ∀ k ∈ ws, k ∈ over ss 3) (hn : [] ∈ ws) (hp : ∀ k ∈ ws, ∀ t, t <+: k → t ∈ ws) : Fr ss os ∧ ∀ k, k ∈ os ↔ k ∈ ws := by
  refine ⟨.of_ord io h, fun k => (io.mem k).trans ⟨fun hk => ?_, fun hk => mem_clo.mpr (.inr ⟨k, hk, List.prefix_refl k⟩)⟩⟩
  rcases mem_clo.mp hk with rfl | ⟨w, hw, p⟩
  · exact hn
  · exact hp w hw k p
theorem Fr.or {ss : List Str} {a b c : List (List Str)} (ha : Fr ss a) (hb : Fr ss b) (io : IsOrd (clo (a ++ b)) c) : Fr ss c ∧ ∀ k, k ∈ c ↔ k ∈ a ∨ k ∈ b := by
  obtain ⟨h1, h2⟩ := Fr.make (ss := ss) io (fun k hk => (List.mem_append.mp hk).elim (ha.sub k) (hb.sub k)) (List.mem_append_left _ ha.nil) fun k hk t p => (List.mem_append.mp hk).elim (fun h => List.mem_append_left _ (ha.pre k h t p)) fun h => List.mem_append_right _ (hb.pre k h t p)
  exact ⟨h1, fun k => (h2 k).trans List.mem_append⟩
theorem Fr.and {ss : List Str} {a b c : List (List Str)} (ha : Fr ss a) (hb : Fr ss b) (io : IsOrd (clo (a.filter fun k => decide (k ∈ b))) c) : Fr ss c ∧ ∀ k, k ∈ c ↔ k ∈ a ∧ k ∈ b := by
  have mf : ∀ k, k ∈ a.filter (fun k => decide (k ∈ b)) ↔ k ∈ a ∧ k ∈ b := fun k => by rw [List.mem_filter, decide_eq_true_eq]
  obtain ⟨h1, h2⟩ := Fr.make (ss := ss) io (fun k hk => ha.sub k ((mf k).mp hk).1) ((mf _).mpr ⟨ha.nil, hb.nil⟩) fun k hk t p => (mf t).mpr ⟨ha.pre k ((mf k).mp hk).1 t p, hb.pre k ((mf k).mp hk).2 t p⟩
  exact ⟨h1, fun k => (h2 k).trans (mf k)⟩
theorem Fr.cut {ss : List Str} {a c : List (List Str)} {m : Nat} (ha : Fr ss a) (io : IsOrd (clo (cutW a m)) c) : Fr ss c ∧ ∀ k, k ∈ c ↔ k ∈ a ∧ k.length ≤ m := by
  have mf : ∀ k, k ∈ cutW a m ↔ k ∈ a ∧ k.length ≤ m := fun k => by unfold cutW; rw [List.mem_filter, decide_eq_true_eq]
  obtain ⟨h1, h2⟩ := Fr.make (ss := ss) io (fun k hk => ha.sub k ((mf k).mp hk).1) ((mf _).mpr ⟨ha.nil, Nat.zero_le _⟩) fun k hk t p => (mf t).mpr ⟨ha.pre k ((mf k).mp hk).1 t p, Nat.le_trans p.length_le ((mf k).mp hk).2⟩
  exact ⟨h1, fun k => (h2 k).trans (mf k)⟩
def lftW (os : List (List Str)) (x : Str) : List (List Str) := (os.filter fun k => decide (k.length < 3)).map fun k => x :: k
theorem mem_lft {os : List (List Str)} {x : Str} {k : List Str} : k ∈ lftW os x ↔ ∃ t, k = x :: t ∧ t ∈ os ∧ t.length < 3 := by
  unfold lftW
  rw [List.mem_map]
  constructor
  · rintro ⟨t, ht, rfl⟩
    obtain ⟨h1, h2⟩ := List.mem_filter.mp ht
    exact ⟨t, rfl, h1, of_decide_eq_true h2⟩
  · rintro ⟨t, rfl, h1, h2⟩
    exact ⟨t, List.mem_filter.mpr ⟨h1, decide_eq_true h2⟩, rfl⟩
theorem lft_sub {ss : List Str} {a : List (List Str)} {x : Str} (ha : Fr ss a) (hx : x ∈ ss) : ∀ k ∈ lftW a x, k ∈ over ss 3 := fun k hk => by
  obtain ⟨t, rfl, h1, h2⟩ := mem_lft.mp hk
  obtain ⟨h3, h4⟩ := (mem_over ss 3 t).mp (ha.sub t h1)
  refine (mem_over ss 3 _).mpr ⟨by rw [List.length_cons]; omega, fun y hy => ?_⟩
  rcases List.mem_cons.mp hy with rfl | hy
  · exact hx
  · exact h4 y hy
theorem Fr.lift {ss : List Str} {a c : List (List Str)} {x : Str} (ha : Fr ss a) (hx : x ∈ ss) (io : IsOrd (clo (lftW a x)) c) : Fr ss c ∧ ∀ k, k ∈ c ↔ k = [] ∨ ∃ t, k = x :: t ∧ t ∈ a ∧ t.length < 3 := by
  refine ⟨.of_ord io (lft_sub ha hx), fun k => (io.mem k).trans ⟨fun hk => ?_, fun hk => ?_⟩⟩
  · rcases mem_clo.mp hk with rfl | ⟨w, hw, p⟩
    · exact .inl rfl
    · obtain ⟨t, rfl, h1, h2⟩ := mem_lft.mp hw
      rcases k with _ | ⟨y, k⟩
      · exact .inl rfl
      · obtain ⟨rfl, q⟩ := List.cons_prefix_cons.mp p
        exact .inr ⟨k, rfl, ha.pre t h1 k q, Nat.lt_of_le_of_lt q.length_le h2⟩
  · rcases hk with rfl | ⟨t, rfl, h1, h2⟩
    · exact mem_clo.mpr (.inl rfl)
    · exact mem_clo.mpr (.inr ⟨_, mem_lft.mpr ⟨t, rfl, h1, h2⟩, List.prefix_refl _⟩)
theorem bhd_sub {ss : List Str} {a : List (List Str)} {x : Str} (ha : Fr ss a) : ∀ k ∈ bhd a x, k ∈ over ss 3 := fun k hk => by
  obtain ⟨h1, h2⟩ := (mem_over ss 3 _).mp (ha.sub _ (mem_bhd.mp hk))
  refine (mem_over ss 3 k).mpr ⟨by rw [List.length_cons] at h1; omega, fun y hy => h2 y (List.mem_cons_of_mem _ hy)⟩
theorem Fr.div {ss : List Str} {a c : List (List Str)} {x : Str} (ha : Fr ss a) (hx : [x] ∈ a) (io : IsOrd (clo (bhd a x)) c) : Fr ss c ∧ ∀ k, k ∈ c ↔ (x :: k) ∈ a := by
  obtain ⟨h1, h2⟩ := Fr.make (ss := ss) io (bhd_sub ha) (mem_bhd.mpr hx) fun k hk t p => mem_bhd.mpr (ha.pre _ (mem_bhd.mp hk) _ (List.cons_prefix_cons.mpr ⟨rfl, p⟩))
  exact ⟨h1, fun k => (h2 k).trans mem_bhd⟩
/-! ### the order -/
/-- ahead, by how many, then word by word -/
def bef (os us : List (List Str)) : Bool := if os.length = us.length then lbef os us else decide (os.length < us.length)
theorem bef_irrefl (os : List (List Str)) : bef os os = false := by
  unfold bef
  rw [if_pos rfl, lbef_irrefl]
theorem bef_trans {a b c : List (List Str)} (h : bef a b = true) (g : bef b c = true) : bef a c = true := by
  unfold bef at *
  by_cases e1 : a.length = b.length <;> by_cases e2 : b.length = c.length
  · rw [if_pos e1] at h
    rw [if_pos e2] at g
    rw [if_pos (e1.trans e2)]
    exact lbef_trans h g
  · rw [if_neg e2, decide_eq_true_eq] at g
    rw [if_neg (by omega), decide_eq_true_eq]
    omega
  · rw [if_neg e1, decide_eq_true_eq] at h
    rw [if_neg (by omega), decide_eq_true_eq]
    omega
  · rw [if_neg e1, decide_eq_true_eq] at h
    rw [if_neg e2, decide_eq_true_eq] at g
    rw [if_neg (by omega), decide_eq_true_eq]
    omega
theorem bef_asym {a b : List (List Str)} (h : bef a b = true) : bef b a = false := by
  cases e : bef b a with
  | false => rfl
  | true =>
    have := bef_trans h e
    rw [bef_irrefl] at this
    cases this
theorem bef_tri {a b : List (List Str)} (h : a ≠ b) : bef a b = true ∨ bef b a = true := by
  unfold bef
  by_cases e : a.length = b.length
  · rw [if_pos e, if_pos e.symm]
    exact lbef_tri e h
  · rw [if_neg e, if_neg (fun q => e q.symm), decide_eq_true_eq, decide_eq_true_eq]
    omega
theorem sub_bef {ss tt : List Str} {a b : List (List Str)} (ha : Fr ss a) (hb : Fr tt b) (h : ∀ k ∈ a, k ∈ b) (ne : a ≠ b) : bef a b = true := by
  have h1 := nodup_len ha.nodup h
  have h2 : a.length ≠ b.length := fun e => ne (ha.ext hb fun k => ⟨h k, fun hk => Decidable.byContradiction fun hn => by
    have := nodup_len (us := k :: a) (ws := b) (List.nodup_cons.mpr ⟨hn, ha.nodup⟩) fun t ht => by
      rcases List.mem_cons.mp ht with rfl | ht
      · exact hk
      · exact h t ht
    rw [List.length_cons] at this
    omega⟩)
  unfold bef
  rw [if_neg h2, decide_eq_true_eq]
  omega
theorem ord_fr {ss : List Str} {a : List (List Str)} (ha : Fr ss a) {os : List (List Str)} (io : IsOrd (clo a) os) : os = a := by
  obtain ⟨h1, h2⟩ := Fr.make (ss := ss) io ha.sub ha.nil ha.pre
  exact h1.ext ha h2
end PD

set_option Elab.async false
set_option linter.all false
set_option maxRecDepth 100000
set_option maxHeartbeats 4000000
/-! PI20: walks within comprehensions; sets, own operators on closed rows. -/
namespace PD
open PySem PySem.Spec PyProof.Rows L2
theorem pe_fldK {X : Cx} {K : PySem.W.Frag} {e : Expr} {f : Str} {pos : Pos} {ta : TE} (hK : X.K = K) (he : PE X e ta) (hb : attributeBase e f X.env (eval e X.env) = eval e X.env) : PE X (.Attribute e f pos) (tFld K ta f) := by
  subst hK
  exact pe_fld he hb
theorem wbef_at : ∀ {k l : List Str} {j : Nat} (h1 : j < k.length) (h2 : j < l.length), k.take j = l.take j → k[j] ≠ l[j] → wbef k l = decide (k[j].cps.toList < l[j].cps.toList)
  | x :: k, y :: l, 0, _, _, _, ne => by
    rw [wbef_cons, if_neg (show ¬ x = y from ne)]
    rfl
  | x :: k, y :: l, j + 1, h1, h2, e, ne => by
    rw [List.take_succ_cons, List.take_succ_cons] at e
    obtain ⟨e1, e2⟩ := List.cons.inj e
    rw [wbef_cons, if_pos e1]
    exact wbef_at (by simpa using h1) (by simpa using h2) e2 ne
theorem wbef_pre : ∀ {k l : List Str}, k.take (min k.length l.length) = l.take (min k.length l.length) → wbef k l = decide (k.length < l.length)
  | [], l, _ => by
    rw [wbef_nil]
    cases l <;> rfl
  | x :: k, [], _ => by
    rw [wbef_cons_nil]
    rfl
  | x :: k, y :: l, e => by
    rw [List.length_cons, List.length_cons, Nat.add_min_add_right, List.take_succ_cons, List.take_succ_cons] at e
    obtain ⟨e1, e2⟩ := List.cons.inj e
    rw [wbef_cons, if_pos e1, wbef_pre e2, List.length_cons, List.length_cons]
    exact decide_eq_decide.mpr (by omega)
theorem lbef_at : ∀ {a b : List (List Str)} {i : Nat} (h1 : i < a.length) (h2 : i < b.length), a.take i = b.take i → a[i] ≠ b[i] → lbef a b = wbef a[i] b[i]
  | x :: k, y :: l, 0, _, _, _, ne => by
    rw [lbef_cons, if_neg (show ¬ x = y from ne)]
    rfl
  | x :: k, y :: l, j + 1, h1, h2, e, ne => by
    rw [List.take_succ_cons, List.take_succ_cons] at e
    obtain ⟨e1, e2⟩ := List.cons.inj e
    rw [lbef_cons, if_pos e1]
    exact lbef_at (by simpa using h1) (by simpa using h2) e2 ne
theorem clo_nil : ∀ q : List Str, q ∈ clo [] ↔ q = [] := fun q => by
  rw [mem_clo]
  simp
theorem clo_snoc {ws : List (List Str)} {v q : List Str} : q ∈ clo (ws ++ [v]) ↔ q ∈ clo ws ∨ ∃ m, m < v.length ∧ q = v.take (m + 1) := by
  rw [mem_clo, mem_clo]
  constructor
  · rintro (rfl | ⟨w, hw, p⟩)
    · exact .inl (.inl rfl)
    · rcases List.mem_append.mp hw with hw | hw
      · exact .inl (.inr ⟨w, hw, p⟩)
      · rw [List.mem_singleton.mp hw] at p
        by_cases h0 : q = []
        · exact .inl (.inl h0)
        · have h1 := List.length_pos_iff.mpr h0
          have h2 := p.length_le
          refine .inr ⟨q.length - 1, by omega, ?_⟩
          rw [show q.length - 1 + 1 = q.length by omega]
          exact List.prefix_iff_eq_take.mp p
  · rintro ((rfl | ⟨w, hw, p⟩) | ⟨m, _, rfl⟩)
    · exact .inl rfl
    · exact .inr ⟨w, List.mem_append_left _ hw, p⟩
    · exact .inr ⟨v, List.mem_append_right _ (List.mem_singleton.mpr rfl), List.take_prefix ..⟩
theorem take_snocE {α : Type} {k l : List α} {j : Nat} (h1 : j < k.length) (h2 : j < l.length) (e : k.take j = l.take j) (e2 : k[j] = l[j]) : k.take (j + 1) = l.take (j + 1) := by
  rw [List.take_succ_eq_append_getElem h1, List.take_succ_eq_append_getElem h2, e, e2]
section
variable {z : Zp} {P : D → Prop} {K : PySem.W.Frag}
theorem o_neBl {i j : Bool} (q : P (.bl (!decide (i = j)))) : O2 z rNe (.bl i) (.bl j) P := fun hs x y H p rx ry Q w => by
  cases rx; cases ry
  refine ⟨rfl, w.here p (.bl _) ?_⟩
  have e : decide (V.bl i = V.bl j) = decide (i = j) := decide_eq_decide.mpr ⟨V.bl.inj, congrArg V.bl⟩
  rw [e]
  exact q
theorem pyA_nats : ∀ ns : List Nat, pyA (ns.map fun n : Nat => D.int n) = ns.map fun n : Nat => PyData.int n
  | [] => rfl
  | n :: ns => by simp only [List.map_cons, pyA, py, pyA_nats ns]
theorem isPyA_nats : ∀ ns : List Nat, isPyA (ns.map fun n : Nat => D.int n) = true
  | [] => rfl
  | n :: ns => by simp only [List.map_cons, isPyA, isPy, isPyA_nats ns, Bool.and_self]
theorem depth_nats : ∀ ns : List Nat, PyData.depthAll (ns.map fun n : Nat => PyData.int n) = 0
  | [] => by simp [PyData.depthAll]
  | n :: ns => by simp [PyData.depthAll, PyData.depth, depth_nats ns]
theorem lay_nats : ∀ ns : List Nat, PyData.canLayAll0 (ns.map fun n : Nat => PyData.int n) = true
  | [] => by simp [PyData.canLayAll0]
  | n :: ns => by simp [PyData.canLayAll0, PyData.canLay0, lay_nats ns]
theorem eqv_nats : ∀ ns : List Nat, PyData.eqvAll (ns.map fun n : Nat => PyData.int n) (ns.map fun n : Nat => PyData.int n) = true
  | [] => by simp [PyData.eqvAll]
  | n :: ns => by
    rw [List.map_cons]
    simp only [PyData.eqvAll, eqv_nats ns, Bool.and_true]
    simp [PyData.eqv]
theorem shaped_nats (ns : List Nat) : SeqAt.shaped (py (.lst (ns.map fun n : Nat => D.int n))) = true := by
  simp only [py, pyA_nats]
  unfold SeqAt.shaped
  simp [PyData.canLay0, lay_nats ns, PyData.depth, depth_nats]
/-- the same counts twice -/
theorem o_neNL {ns : List Nat} (q : P (.bl false)) : O2 z (rNeD K) (.lst (ns.map fun n : Nat => D.int n)) (.lst (ns.map fun n : Nat => D.int n)) P := o_neD (by simp only [isPy, isPyA_nats]) (by simp only [isPy, isPyA_nats]) (shaped_nats ns) (shaped_nats ns) (by
  simp only [py, pyA_nats, PyData.eqv, eqv_nats]
  exact q)
/-- b in (True, False) -/
theorem o_inTF {b : Bool} (q : P (.bl true)) : O2 z (rIn K false) (.bl b) (.tup [.bl true, .bl false]) P := o_in ⟨_, _, _, .inr rfl, rfl, rfl, rfl, rfl, by
  have e : inV (.bl b) [.bl true, .bl false] = true := by cases b <;> decide +kernel
  rw [e]
  exact q⟩
end
end PD

set_option Elab.async false
set_option linter.all false
set_option maxRecDepth 100000
set_option maxHeartbeats 4000000
/-! PI21: repr by an own __repr__, f-strings that show data. -/
namespace PD
open PySem PySem.Spec PyProof.Rows L2
section
variable {X : Cx} {CX : CXT} {k : Nat} {C f : Addr} {fd : FuncData} {ps : List Str} {sp : Sp} {E : XK}
theorem run_fnG1 {pins : List (Addr × Obj)} {σ : L2.St} {H : Hp} {s : Shared} {Q : VK} {us : List Value} {vs : List V} (F : FnG X.prog X.w X.K X.mg X.base CX k f fd ps sp) (hgd : X.A.guards = some []) (hr : Room (k + 1) X.A) (hb : Binds X.K fd ps []) (hx : Passes CX X E)
    (I : Inv X pins σ H s) (r : Vals vs us) (h : sp vs H Q E) : wpAny (model X.prog X.w) X.A.in1 (call (.ref f) us) (EP X pins σ Q) X.xe s := by
  have hl : us.length = ps.length := by rw [← r.length]; exact F.len _ _ _ _ h
  have hB : BindsTo s fd ⟨us, []⟩ (ps.zip us) := by
    have e := hb s us I.kIn (by simpa using hl)
    simpa using e
  refine wpAny_call (codeAny_mono (F.run X.A.in1 X.stack s H ⟨us, []⟩ us vs Q E hgd hr.in1 I.env0.in1 hB r h) fun r s' hq => ?_)
  cases r with
  | error e => exact hx pins σ H s e s' I hq
  | ok fl =>
    cases fl with
    | ret u => exact I.after hq
    | next => exact False.elim hq
    | brk => exact False.elim hq
    | cont => exact False.elim hq
def rReprO (C : Addr) (sp : Sp) (E : XK) : List V → Hp → VK → Prop := fun xs H Q => ∃ x, xs = [x] ∧ InsA H C x ∧ sp [x] H (fun v H' => ∃ t, v = .str t ∧ Q (.str t) H') E
theorem call_reprO (F : FnG X.prog X.w X.K X.mg X.base CX k f fd ps sp) (hgd : X.A.guards = some []) (hr : Room (k + 1) X.A) (hu : X.A.units + 64 < cLine) (hb : Binds X.K fd ps []) (hs : PySem.W.findIn X.K (.ref C) "__repr__" = some (some (.ref f))) (hf : PySem.W.isFn X.K (.ref f) = true) (hx : Passes CX X E) : CallR X (.builtin "repr") (rReprO C sp E) := by
  intro pins s σ H xs us Q I r ⟨x, ex, ⟨a, dx, fs, ea', ea⟩, hsp⟩
  subst ex ea'
  cases r with
  | cons r rs =>
    cases rs
    cases r
    obtain ⟨mA, J, _⟩ := ins_get I.hok ea
    obtain ⟨od, J, _⟩ := J.look
    obtain ⟨m, hF⟩ := I.fr
    refine PySem.W.repr_K (by show X.A.units + 1 < _; omega) hF I.ok.mod.kin J hs hf ?_
    refine wpAny_mono (run_fnG1 (us := [.ref a]) (vs := [.ref a]) F hgd hr hb hx I (.cons rfl .nil) hsp) (fun r s' q => ?_) fun _ _ q => q
    obtain ⟨w, H', I', rw', t, ew, q⟩ := q
    subst ew
    obtain ⟨tk, rfl⟩ := (show ∃ tk, r = Value.str t tk from rw')
    exact ⟨.str t, H', I', ⟨_, rfl⟩, q⟩
/-- {e!r}, e a list or tuple of flat things -/
def tFmtW (K : PySem.W.Frag) (te : TE) : TE := fun σ H Q => te σ H fun x H1 => ∃ (a : Addr) (d : PyData), x = .ref a ∧ Dp K H1 x d ∧ d.showable = true ∧ d.hasDict = false ∧ d.depth ≤ 60 ∧ d.shown.length ≤ sizeLine ∧ Q (.str d.shown) H1
theorem pe_fmtW {e : Expr} {te : TE} {pos : Pos} (hgd : X.A.guards = some []) (hu : X.A.units + 64 < cLine) (he : PE X e te) : PE X (.FormattedValue e 114 none pos) (tFmtW X.K te) := by
  refine ⟨fun pins s σ H Q I h => ?_⟩
  refine wpAny_FormattedValue_repr (thn (he.run pins s σ H _ I h) fun v s1 hv => ?_)
  obtain ⟨x, H1, I1, r1, a, d, ex, hd, hs, hn, hdp, hz, q⟩ := hv
  subst ex
  obtain ⟨as, rd⟩ := Dp.reads I1 d _ v hd r1
  cases r1
  exact pyReprObj_of_reads rd hs (fun h => by rw [hn] at h; cases h) hgd (by omega) (fun _ _ e => e) (fun h' u tk hk => wpAny_formatField_str ⟨.str d.shown, H1, (I1.kept (t' := tk) hk).tok _, ⟨_, rfl⟩, q⟩ ⟨.str d.shown, H1, (I1.kept (t' := tk) hk).tok _, ⟨_, rfl⟩, q⟩ hz) hz
end
end PD

set_option Elab.async false
set_option linter.all false
set_option maxRecDepth 100000
set_option maxHeartbeats 4000000
/-! PI22: dicts of words, or of texts, each to True: dict(pairs), {}, update, list(d). -/
namespace PD
open PySem PySem.Spec PyProof.Rows L2
/-! ### each once, in the sequence of their first places -/
section
variable {α κ : Type} [DecidableEq α] [DecidableEq κ]
def putU (acc : List α) (k : α) : List α := if k ∈ acc then acc else acc ++ [k]
def addU (acc ks : List α) : List α := ks.foldl putU acc
theorem mem_putU {acc : List α} {k x : α} : x ∈ putU acc k ↔ x ∈ acc ∨ x = k := by
  unfold putU
  by_cases h : k ∈ acc
  · rw [if_pos h]
    exact ⟨.inl, fun q => q.elim id fun e => e ▸ h⟩
  · rw [if_neg h, List.mem_append, List.mem_singleton]
theorem mem_addU {x : α} : ∀ {ks acc : List α}, x ∈ addU acc ks ↔ x ∈ acc ∨ x ∈ ks
  | [], acc => by simp [addU]
  | k :: ks, acc => by
    show x ∈ addU (putU acc k) ks ↔ _
    rw [mem_addU, mem_putU, List.mem_cons, or_assoc]
theorem nodup_putU {acc : List α} {k : α} (h : acc.Nodup) : (putU acc k).Nodup := by
  unfold putU
  by_cases q : k ∈ acc
  · rw [if_pos q]; exact h
  · rw [if_neg q]
    refine List.nodup_append.mpr ⟨h, List.nodup_cons.mpr ⟨by simp, .nil⟩, fun a ha b hb e => ?_⟩
    rw [List.mem_singleton] at hb
    exact q (by rw [← hb, ← e]; exact ha)
theorem nodup_addU : ∀ {ks acc : List α}, acc.Nodup → (addU acc ks).Nodup
  | [], _, h => h
  | k :: ks, acc, h => by
    show (addU (putU acc k) ks).Nodup
    exact nodup_addU (nodup_putU h)
theorem len_putU {acc : List α} {k : α} : (putU acc k).length ≤ acc.length + 1 := by
  unfold putU
  split <;> simp
theorem len_addU : ∀ {ks acc : List α}, (addU acc ks).length ≤ acc.length + ks.length
  | [], _ => Nat.le_refl _
  | k :: ks, acc => by
    have h1 := len_addU (ks := ks) (acc := putU acc k)
    have h2 := len_putU (acc := acc) (k := k)
    show (addU (putU acc k) ks).length ≤ acc.length + (ks.length + 1)
    omega
def mpU (f : α → κ) (acc : List α) : List (κ × V) := acc.map fun a => (f a, V.bl true)
theorem put_one {f : α → κ} (inj : ∀ a b, f a = f b → a = b) (acc : List α) (k : α) : putK (mpU f acc) (f k) (.bl true) = mpU f (putU acc k) := by
  have e : ((mpU f acc).any fun kv => decide (kv.1 = f k)) = decide (k ∈ acc) := by
    unfold mpU
    rw [List.any_map, Bool.eq_iff_iff, List.any_eq_true, decide_eq_true_eq]
    constructor
    · rintro ⟨x, hx, hq⟩
      have hq := of_decide_eq_true hq
      exact inj _ _ hq ▸ hx
    · exact fun h => ⟨k, h, decide_eq_true rfl⟩
  unfold putK putU
  rw [e]
  by_cases h : k ∈ acc
  · rw [if_pos (decide_eq_true h), if_pos h]
    unfold mpU
    rw [List.map_map]
    refine List.map_congr_left fun a _ => ?_
    show (if f a = f k then (f a, V.bl true) else (f a, V.bl true)) = _
    rw [ite_self]
  · rw [if_neg (by simpa using h), if_neg h]
    unfold mpU
    rw [List.map_append]
    rfl
end
theorem inr_inj : ∀ a b : Str, (Sum.inr a : Key) = Sum.inr b → a = b := fun _ _ h => Sum.inr.inj h
theorem inrs_inj (a b : List Str) (h : a.map (Sum.inr : Str → Key) = b.map Sum.inr) : a = b := List.map_inj_right (fun _ _ e => Sum.inr.inj e) |>.mp h
def tkW (ks : List (List Str)) : List (List Key × V) := mpU (fun k => k.map Sum.inr) ks
theorem tkV_eq (ks : List Str) : tkV ks = mpU Sum.inr ks := rfl
theorem merge_one : ∀ (ks acc : List Str), mergeK (tkV acc) (tkV ks) = tkV (addU acc ks)
  | [], _ => rfl
  | k :: ks, acc => by
    show mergeK (putK (tkV acc) (Sum.inr k) (.bl true)) (tkV ks) = tkV (addU (putU acc k) ks)
    rw [tkV_eq, put_one inr_inj, ← tkV_eq, merge_one]
/-! ### dict(pairs), the keys tuples of texts -/
def rDictT : List V → Hp → VK → Prop := fun xs H Q => ∃ (a : Addr) (ps : List Addr) (ks : List (List Str × Addr)), xs = [.ref a] ∧ H a = some (.lst (ps.map V.ref)) ∧
  Paired (fun p (q : List Str × Addr) => H p = some (.tup [.ref q.2, .bl true]) ∧ H q.2 = some (.tup (q.1.map V.str))) ps ks ∧ ∀ p, H p = none → Q (.ref p) (upd H p (.dT (tkW (addU [] (ks.map (·.1))))))
theorem kVs_str (k : List Str) : (k.map (Sum.inr : Str → Key)).map kV = k.map V.str := by
  rw [List.map_map]
  rfl
theorem kt_all {H : Hp} : ∀ {ks : List (List Str × Addr)} {acc : List (List Str)} {xs : List (List Key × Addr × Value)}, KT H (tkW acc) xs → (∀ q ∈ ks, H q.2 = some (.tup (q.1.map V.str))) →
    KT H (tkW (addU acc (ks.map (·.1)))) (storedAllH xs (ks.map fun q => (q.1.map Sum.inr, q.2, Value.bool true)))
  | [], _, _, h, _ => h
  | q :: ks, acc, xs, h, g => by
    have h1 : KT H (tkW (putU acc q.1)) (storedH xs (q.1.map Sum.inr) q.2 (Value.bool true)) := by
      unfold tkW
      rw [← put_one inrs_inj]
      exact KT.put h _ (by rw [kVs_str]; exact g q List.mem_cons_self) rfl
    exact kt_all (ks := ks) (acc := putU acc q.1) h1 fun q' hq => g q' (List.mem_cons_of_mem _ hq)
theorem prd_at {α β : Type} {Rr : α → β → Prop} : ∀ {as : List α} {bs : List β}, Paired Rr as bs → ∀ (j : Nat) (b : β), bs[j]? = some b → ∃ a, as[j]? = some a ∧ Rr a b
  | _, _, .nil, j, b, h => by simp at h
  | _, _, .cons h t, 0, b, e => by
    simp at e
    subst e
    exact ⟨_, rfl, h⟩
  | _, _, .cons h t, j + 1, b, e => by simpa using prd_at t j b (by simpa using e)
theorem call_dictT {X : Cx} (hcalm : X.calm = true) (hu : X.A.units + 64 < cLine) : CallR X (.type "dict") rDictT := by
  intro pins s σ H xs us Q I r q
  obtain ⟨a, ps, ks, ex, hq, hp, q⟩ := q
  subst ex
  obtain ⟨u, eu, rx⟩ := vals1 r
  subst eu
  cases rx
  obtain ⟨its, rv, pl, hz⟩ := I.list (.inl (.inl hq))
  have ei := refs_at rv
  subst ei
  rw [List.length_map] at hz
  obtain ⟨o, n, ho, hc, hd, hdat⟩ := pl
  have hl : ps.length = ks.length := Paired.length hp
  have tupAt : ∀ {b : Addr} {ys : List V}, H b = some (.tup ys) → ∃ us, Vals ys us ∧ s.heap.IsTuple b us.toArray := fun {b ys} hb => by
    obtain ⟨_, its, r, o, h1, h2, n, h3⟩ := (show ObjOk X.prog X.w H s.heap b (.tup ys) from I.hok b _ hb)
    exact ⟨its, r, o, h1, h2, n, h3⟩
  have keyAt : ∀ {b : Addr} {k : List Str}, H b = some (.tup (k.map V.str)) → (tupleKind (mixKind X.prog X.w)).is s.heap (k.map Sum.inr) b := fun {b k} hb => key_of I.hok (by rw [kVs_str]; exact hb)
  have okk : PlainSeq "list" s.heap a (ps.map Value.ref).toArray ∧ PairItems s.heap (ps.map Value.ref).toArray (fun j => ps.getD j 0) (ks.map fun q => (Value.ref q.2, Value.bool true)) := by
    refine ⟨⟨o, n, ho, hc, hd, hdat⟩, by simp [hl], fun j k v e => ?_⟩
    rw [List.getElem?_map] at e
    cases hk : ks[j]? with
    | none => rw [hk] at e; cases e
    | some q =>
      rw [hk] at e
      obtain ⟨rfl, rfl⟩ := Prod.mk.inj (Option.some.inj e)
      obtain ⟨p, hpj, h1, h2⟩ := prd_at hp j q hk
      have hD : ps.getD j 0 = p := by rw [List.getD_eq_getElem?_getD, hpj]; rfl
      show (ps.map Value.ref).toArray[j]? = some (Value.ref (ps.getD j 0)) ∧ PairAt s.heap (ps.getD j 0) _ _
      rw [hD]
      refine ⟨by simp [hpj], .inl ?_⟩
      obtain ⟨us, rr, it⟩ := tupAt h1
      obtain ⟨x, y, e, rx, ry⟩ := vals2 rr
      subst e
      cases rx
      cases ry
      exact it
  refine PySem.call_dict_pairsH (knd := tupleKind (mixKind X.prog X.w)) (ps := ks.map fun q => (q.1.map Sum.inr, q.2, Value.bool true)) (PairArg.list a _ (fun j => ps.getD j 0) _) (I.ok.hd hcalm) (by show X.A.units + 1 + 1 < cLine; omega) okk ⟨by simp, fun i key v e => ?_⟩ (fun h' k x hx => ?_) (by simp only [List.length_map]; rw [← hl]; exact hz) fun h' tk hd' k => ?_
  · have e : (ks.map fun q => (Value.ref q.2, Value.bool true))[i]? = some (key, v) := e
    rw [List.getElem?_map] at e
    cases hk : ks[i]? with
    | none => rw [hk] at e; cases e
    | some q =>
      rw [hk] at e
      obtain ⟨rfl, rfl⟩ := Prod.mk.inj (Option.some.inj e)
      exact ⟨q.1.map Sum.inr, q.2, by rw [List.getElem?_map, hk]; rfl, rfl⟩
  · obtain ⟨q, hq, rfl⟩ := List.mem_map.mp hx
    obtain ⟨j, hj⟩ := List.getElem?_of_mem hq
    obtain ⟨p, _, _, h2⟩ := prd_at hp j q hj
    obtain ⟨ob, its, nn, e1, e2, e3, e4⟩ := keyAt h2
    exact ⟨ob, its, nn, k _ _ (Nat.ne_of_lt (Heap.lt_size e1)) (by simp) e1, e2, e3, e4⟩
  · have k : ∀ b o, s.heap.get? b = some o → h'.get? b = some o := fun b o e => k b o (by simp) e
    have hm : (s.heap.objs.size == sysModules) = false := beq_eq_false_iff_ne.mpr (Nat.ne_of_gt I.big)
    have fr : H s.heap.objs.size = none := I.hok.fresh (Nat.le_refl _)
    have all : ∀ q ∈ ks, H q.2 = some (.tup (q.1.map V.str)) := fun q hq => by
      obtain ⟨j, hj⟩ := List.getElem?_of_mem hq
      obtain ⟨p, _, _, h2⟩ := prd_at hp j q hj
      exact h2
    have kt := kt_all (acc := []) (xs := []) (show KT H (tkW []) [] from .nil) all
    have hlen : (tkW (addU [] (ks.map (·.1)))).length ≤ sizeLine := by
      unfold tkW mpU
      rw [List.length_map]
      refine Nat.le_trans len_addU ?_
      rw [List.length_map, ← hl]
      simpa using hz
    obtain ⟨q', es, ep, hq, h2, h3, h4, _, h5⟩ := hd'
    exact ⟨.ref s.heap.objs.size, upd H s.heap.objs.size (.dT (tkW (addU [] (ks.map (·.1))))), I.laid (t' := tk) k (Nat.le_refl _) (show ObjOk X.prog X.w _ _ _ (.dT _) from ⟨hlen, hm, _, kt.keeps fun c ys ec => (by rw [upd_ne (ne_of_none ec fr)]; exact ec), q', es, ep, hq, h2, h3, h4, h5⟩), rfl, q _ fr⟩
/-! ### d.update(e) -/
def rUpdD : V → List V → Hp → VK → Prop := fun x vs H Q => ∃ (a b : Addr) (kvs more : List (Key × V)), x = .ref a ∧ vs = [.ref b] ∧ a ≠ b ∧ H a = some (.dK kvs) ∧ H b = some (.dK more) ∧ kvs.length + more.length ≤ sizeLine ∧ Q .non (upd H a (.dK (mergeK kvs more)))
theorem mt_updD {X : Cx} : MtR X "dict.update" rUpdD := by
  intro pins s σ H x vs v us Q I rx rv h
  obtain ⟨a, b, kvs, more, ex, ev, ne, ha, hb, hz, q⟩ := h
  subst ex ev
  obtain rfl : v = Value.ref a := rx
  obtain ⟨u, eu, ru⟩ := vals1 rv
  subst eu
  cases ru
  obtain ⟨z1, m1, vs1, kv1, d1⟩ := dk_of I.hok ha
  obtain ⟨z2, m2, vs2, kv2, d2⟩ := dk_of I.hok hb
  refine call_meetsIn PySem.F.slot_dict_update d1.typeIs PySem.F.entry_dict_update (PySem.F.args_dict_update_2 _ _) (meets_dict_update (mixKind X.prog X.w) a b ne m2) ⟨vs1, vs2, d1, d2, by rw [← kv1.length, ← kv2.length]; exact hz, fun h' e1 e2 sb => ?_⟩
  have he : ∃ q, h'.get? a = some q := let ⟨q, _, _, hq, _⟩ := e1; ⟨q, hq⟩
  have hl : (mergeK kvs more).length ≤ sizeLine := Nat.le_trans (length_mergeK more kvs) hz
  exact ⟨.non, _, d_write (t' := s.toks) I (by rw [ha]; exact True.intro) sb he (dk_new hl m1 (KV.merge kv2 kv1) e1), rfl, q⟩
section
variable {X : Cx} {o e : Expr} {to : TE} {tr : TA} {apos cpos : Pos}
end
/-! ### by data -/
section
variable {z : Zp} {hs : Addr → Prop} {P : D → Prop} {K : PySem.W.Frag} {ρ : List (Option D)} {r : List Sl} {te : TE} {out : Out}
theorem pairsT_at {H : Hp} : ∀ {ks : List (List Str)} {vs : List V}, RA z (hid z hs H) vs (ks.map fun k => .tup [wd k, .bl true]) → ∃ (ps : List Addr) (qs : List (List Str × Addr)), vs = ps.map V.ref ∧ qs.map (·.1) = ks ∧
    Paired (fun p (q : List Str × Addr) => H p = some (.tup [.ref q.2, .bl true]) ∧ H q.2 = some (.tup (q.1.map V.str))) ps qs
  | [], vs, h => by
    cases h
    exact ⟨[], [], rfl, rfl, .nil⟩
  | k :: ks, vs, h => by
    cases h with
    | cons r rs =>
      obtain ⟨ps, qs, rfl, e, pr⟩ := pairsT_at rs
      cases r with
      | @tup p _ _ g1 g2 =>
        cases g2 with
        | cons q1 q2 =>
        cases q2 with
        | cons q2 q3 =>
        cases q3
        cases q2
        have q1 : R z (hid z hs H) _ (.tup (k.map D.str)) := q1
        cases q1 with
        | @tup b _ _ b1 b2 =>
          have ev := ra_strs _ _ b2
          subst ev
          exact ⟨p :: ps, (k, b) :: qs, rfl, by rw [List.map_cons, e], .cons ⟨hid_sub _ _ g1, hid_sub _ _ b1⟩ pr⟩
theorem o_dictT {ks : List (List Str)} (q : P (.dtk (addU [] ks))) : OC z rDictT [.lst (ks.map fun k => .tup [wd k, .bl true])] P := fun hs vs H p rs Q w => by
  cases rs with
  | cons r rs =>
    cases rs
    cases r with
    | lst g1 g2 =>
      obtain ⟨ps, qs, rfl, e, pr⟩ := pairsT_at g2
      refine ⟨_, ps, qs, rfl, hid_sub _ _ g1, pr, fun a n => ?_⟩
      rw [e]
      exact new_w w p n (fun H' ha ex => .dtk ha) q
theorem o_dictTr {ks : List Str} (q : P (.dct (tkD (addU [] ks)))) : OC z (rDictP K) [.lst (prD (ks.map fun k => (k, .bl true)))] P := fun hs vs H p rs Q w => by
  cases rs with
  | cons r rs =>
    cases rs
    cases r with
    | lst g1 g2 =>
      obtain ⟨as, kvs, rfl, h1, h2, h3⟩ := pairs_at (K := K) g2
      have ek : kvs = tkV ks := by
        have go : ∀ {ks : List Str} {kvs : List (Key × V)}, RK z (hid z hs H) kvs ((ks.map fun k => (k, D.bl true)).map fun p => (.inr p.1, p.2)) → kvs = tkV ks := by
          intro ks
          induction ks with
          | nil => intro kvs h; cases h; rfl
          | cons k ks ih =>
            intro kvs h
            cases h with
            | cons r1 r2 =>
              cases r1
              rw [ih r2]
              rfl
        exact go h2
      subst ek
      refine ⟨_, as, _, rfl, .inl (.inl (hid_sub _ _ g1)), h1, fun a n => ?_⟩
      rw [show mergeK [] (tkV ks) = tkV (addU [] ks) from merge_one ks []]
      exact new_w w p n (fun H' ha ex => .dct ha (rk_tk _)) q
theorem tk_of {G : Hp} : ∀ {ks : List Str} {kvs : List (Key × V)}, RK z G kvs (tkD ks) → kvs = tkV ks
  | [], _, h => by cases h; rfl
  | k :: ks, _, h => by
    cases h with
    | cons r1 r2 =>
      cases r1
      rw [tk_of r2]
      rfl
theorem o_listD {ks : List Str} (q : P (.lst (ks.map D.str))) : OC z rListD [.dct (tkD ks)] P := fun hs vs H p rs Q w => by
  cases rs with
  | cons r rs =>
    cases rs
    cases r with
    | dct g1 g2 =>
      have e := tk_of g2
      subst e
      refine ⟨_, _, rfl, hid_sub _ _ g1, fun a n => ?_⟩
      have e : (tkV ks).map (fun kv => kV kv.1) = ks.map V.str := by
        unfold tkV
        rw [List.map_map]
        rfl
      rw [e]
      exact new_w w p n (fun H' ha ex => .lst ha (strs_ra ks)) q
/-- i = {} -/
theorem x_ownD {i : Nat} (hi : i < r.length) (h : out.nx (r.set i (.od []))) : X1 z (tAsg tDNewK (gName i)) r out := fun hs σ H O s F w => fun p n => by
    obtain ⟨n1, n2⟩ := s.okO.off n
    have n3 : p ∉ O := fun q => n2 (.inr q)
    have e2 : ExZ z H (upd H p (.dK [])) := ExZ.new n
    have s2 : St1 z hs (upd H p (.dK [])) σ r O := s.next e2 (s.ok.new n)
    have key : Ex (hid z (hsO hs O) H) (hid z (hsO hs (p :: O)) (upd H p (.dK []))) := fun a o h => by
      obtain ⟨m1, m2, h⟩ := hid_some h
      have na : a ≠ p := ne_of_none h n
      rw [hid_ne m1 (by
        rintro (q | q)
        · exact m2 (.inl q)
        · rcases List.mem_cons.mp q with q | q
          · exact na q
          · exact m2 (.inr q)), upd_ne na]
      exact h
    obtain ⟨O', sub, s3⟩ := s2.setOd (p := p) (ks := []) n1 (fun q => n2 (.inl q)) n3 upd_same (s.ss.mono key fun a ha o ho => by
      rw [upd_ne (by rintro rfl; exact n3 ha)]
      exact ho) i hi
    refine w.nx _ _ _ O' ⟨fun a o m _ h => e2 a o m h, fun a ha => ?_⟩ s3 h
    rcases sub a ha with rfl | h
    · exact .inr ⟨n1, n⟩
    · exact .inl h
/-- own.update(e) -/
theorem x_updD {i : Nat} {ks : List Str} (he : r[i]? = some (.od ks)) (h : E1 z te (r.map Sl.dat) fun d => ∃ ls, d = .dct (tkD ls) ∧ ks.length + ls.length ≤ 1000 ∧ out.nx (r.set i (.od (addU ks ls)))) : X1 z (tDrop (tBM K "dict" rUpdD (tVar i) (tCons te tNil))) r out := fun hs σ H O s F w => by
  obtain ⟨p, a, b, c⟩ := s.ss.ownd he
  refine ⟨.ref p, a, ?_, ?_⟩
  · exact .inr (.inr (.inl ⟨rfl, .inl ⟨_, c⟩⟩))
  refine s.ev h fun v H1 d e1 s1 rr ⟨ls, ed, hz, q⟩ => ?_
  subst ed
  obtain ⟨p', a', b', c'⟩ := s1.ss.ownd he
  have : p' = p := by
    rw [a] at a'
    have := Option.some.inj (Option.some.inj a')
    cases this
    rfl
  subst this
  cases rr with
  | @dct bb _ _ g1 g2 =>
    have e := tk_of g2
    subst e
    have ne : p' ≠ bb := by
      rintro rfl
      exact (hid_some g1).2.1 (.inr b')
    refine ⟨p', bb, _, _, rfl, rfl, ne, c', hid_sub _ _ g1, by unfold tkV; simp only [List.length_map]; exact szl hz, ?_⟩
    rw [merge_one]
    obtain ⟨n, s2⟩ := s1.changeD (ls := addU ks ls) he a b'
    exact w.nx _ _ _ O ((Nxt.of e1).trans n) s2 q
end
end PD

set_option Elab.async false
set_option linter.all false
set_option maxRecDepth 100000
set_option maxHeartbeats 4000000
/-! PI23: lists over a dict of words; sorted(words, key=str), sorted(texts, key=str). -/
namespace PD
open PySem PySem.Spec PyProof.Rows L2 PySem.W
section
variable {z : Zp} {hs : Addr → Prop} {ρ : List (Option D)} {P : D → Prop} {te : TE} {tt : TT} {H H1 : Hp} {Q : VK} {σ : L2.St}
/-- a list comprehension from a given walk on -/
theorem lc_core {J : It} {n : Nat} {f : Nat → D} {g : TG} {vs : List Nat} {W : Nat → List D → Prop} (p1 : Ok z hs H1) (s1 : SR z (hid z hs H1) σ ρ)
    (wk : ∀ hs' H', Ok z hs' H' → ExZ z H1 H' → ∀ i, (i < n → J.go i H' ∧ ∀ x H2, J.yld i H' x H2 → Ex H' H2 ∧ Ok z hs' H2 ∧ R z (hid z hs' H2) x (f i)) ∧ (n ≤ i → J.stop i H'))
    (hn : n ≤ 1000000) (w0 : W 0 []) (w1 : ∀ i acc, i < n → acc.length ≤ i → W i acc → GE z vs g (wipeD ρ vs) (f i) fun ρ' => ET z tt ρ' fun b => if b = true then E1 z te ρ' fun d => W (i + 1) (acc ++ [d]) else W (i + 1) acc)
    (w2 : ∀ acc, acc.length ≤ n → W n acc → P (.lst acc)) (w : Wd z hs H1 P Q) : tLc (fun _ _ Rr => Rr J H1) g tt te vs σ H1 Q := by
  intro Dl nD
  obtain ⟨o1, o2⟩ := p1.off nD
  let hs' : Addr → Prop := fun a => hs a ∨ a = Dl
  refine ⟨fun i m H' => m = n - i ∧ i ≤ n ∧ ExZ z H1 H' ∧ Ok z hs' H' ∧ ∃ av ad, H' Dl = some (.lst av) ∧ RA z (hid z hs' H') av ad ∧ ad.length ≤ i ∧ W i ad,
    ⟨n, rfl, Nat.zero_le _, ExZ.new nD, ⟨(p1.new nD).pot, fun a ha => ?_⟩, [], [], upd_same, .nil, Nat.le_refl _, w0⟩, ?_⟩
  · rcases ha with ha | ha
    · exact (p1.new nD).tr a ha
    · subst ha
      exact ⟨o1, _, upd_same, fun _ h => by cases h⟩
  rintro i m H' ⟨rfl, hi, ex, p', av, ad, hD, ra, hl, hw⟩
  obtain ⟨q1, q2⟩ := wk hs' H' p' ex i
  by_cases hlt : i < n
  · obtain ⟨g1, g2⟩ := q1 hlt
    refine .inr ⟨g1, fun H2 => ExZ z H1 H2 ∧ Ok z hs' H2 ∧ ∃ av ad, H2 Dl = some (.lst av) ∧ RA z (hid z hs' H2) av ad ∧ ad.length ≤ i + 1 ∧ W (i + 1) ad, fun H2 q => ⟨n - (i + 1), by omega, rfl, hlt, q⟩, fun x H2 y => ?_⟩
    obtain ⟨xe, ok2, r⟩ := g2 x H2 y
    have e2 : ExZ z H' H2 := .of xe
    have p2 : Ok z hs' H2 := ok2
    have ex2 := ex.trans e2
    have s2 : SR z (hid z hs' H2) (wipe σ vs) (wipeD ρ vs) := (s1.mono fun a o ha => by
      obtain ⟨m1, m2, ha⟩ := hid_some ha
      rw [hid_ne m1 (by
        rintro (q | q)
        · exact m2 q
        · rw [q, nD] at ha; cases ha)]
      exact ex2 a o m1 ha).wipe vs
    refine w1 i ad hlt hl hw hs' _ H2 p2 s2 x r _ fun σ3 H3 ρ3 e3 p3 s3 hwp q3 => ⟨by rw [hwp, wipe_idem], ?_⟩
    refine q3 hs' σ3 H3 p3 s3 _ fun b H4 e4 p4 q4 => ?_
    have ex4 := e2.trans (e3.trans e4)
    cases b with
    | true =>
      rw [if_pos rfl] at q4 ⊢
      refine q4 hs' σ3 H4 p4 (s3.mono (exz_hid e4)) _ fun v H5 d e5 p5 r5 q5 => ?_
      have ex5 := ex4.trans e5
      have hD5 := ex5 Dl _ o1 hD
      have hidE : hid z hs' (upd H5 Dl (.lst (av ++ [v]))) = hid z hs' H5 := hid_upd (.inr (.inr rfl))
      refine ⟨av, hD5, ?_, fun a o m ha => ?_, ⟨?_, ?_⟩, av ++ [v], ad ++ [d], upd_same, ?_, by simp; omega, q5⟩
      · rw [ra.length]
        exact Nat.lt_of_le_of_lt hl (Nat.lt_of_lt_of_le (Nat.lt_of_lt_of_le hlt hn) (by decide))
      · rw [upd_ne (ne_of_none ha nD)]
        exact (ex.trans ex5) a o m ha
      · exact p5.pot.upd o1 hD5
      · exact fun a ha => by
          obtain ⟨n1, o, ho, nt⟩ := p5.tr a ha
          by_cases e : a = Dl
          · subst e
            exact ⟨n1, _, upd_same, fun _ h => by cases h⟩
          · exact ⟨n1, o, by rw [upd_ne e]; exact ho, nt⟩
      · rw [hidE]
        exact (RA.mono (exz_hid ex5) _ _ ra).append (.cons r5 .nil)
    | false =>
      rw [if_neg (by decide)] at q4 ⊢
      exact ⟨ex.trans ex4, p4, av, ad, ex4 Dl _ o1 hD, RA.mono (exz_hid ex4) _ _ ra, by omega, q4⟩
  · have : i = n := by omega
    subst this
    refine .inl ⟨q2 (Nat.le_refl _), w _ H' _ ex ⟨p'.pot, fun a ha => p'.tr a (.inl ha)⟩ (.lst ?_ (RA.mono (hid_less fun a => .inl) _ _ ra)) (w2 ad hl hw)⟩
    rw [hid_ne o1 o2]
    exact hD
/-- the flat ones alone -/
def keepF : Option D → Option D
  | some d => if flat d = true then some d else none
  | none => none
theorem sr_flat {G G' : Hp} (h : SR z G σ ρ) : SR z G' σ (ρ.map keepF) := by
  induction h with
  | nil => exact .nil
  | no _ ih => exact .no ih
  | @yes v d _ _ r _ ih =>
    rw [List.map_cons]
    show SR z G' _ ((if flat d = true then some d else none) :: _)
    by_cases q : flat d = true
    · rw [if_pos q]
      exact .yes (flat_any q r) ih
    · rw [if_neg q]
      exact .no ih
/-- a locked dict is no changing place -/
theorem pot_frz {d : Addr} {o : Obj} {u : HO} (p : PotAt z H) (n : ¬ z.at d) (h : ∃ kvs, H d = some (.dT kvs)) : PotAt z (upd H d (.frz o u)) := by
  obtain ⟨kvs, h⟩ := h
  refine ⟨fun a q => ?_, fun t ht => ?_, fun a ps e => ?_⟩
  · obtain ⟨i, j, h2, r⟩ := p.two a q
    exact ⟨i, j, by rw [upd_ne (by rintro rfl; exact n (.inl q))]; exact h2, r⟩
  · obtain ⟨ps, h1, h2, h3⟩ := p.tabs t ht
    refine ⟨ps, by rw [upd_ne (by rintro e; exact n (.inr ⟨t.2, by rw [← e]; exact ht⟩))]; exact h1, h2, fun pos cv hc => ?_⟩
    obtain ⟨c, e1, e2⟩ := h3 pos cv hc
    exact ⟨c, e1, by rw [upd_ne (by rintro rfl; rw [h] at e2; cases e2)]; exact e2⟩
  · by_cases q : a = d
    · rw [q, upd_same] at e
      cases e
    · rw [upd_ne q] at e
      exact p.only a ps e
theorem pot_thaw {d : Addr} {o : Obj} {u : HO} {kvs : List (List Key × V)} (p : PotAt z H) (n : ¬ z.at d) (h : H d = some (.frz o u)) : PotAt z (upd H d (.dT kvs)) := by
  refine ⟨fun a q => ?_, fun t ht => ?_, fun a ps e => ?_⟩
  · obtain ⟨i, j, h2, r⟩ := p.two a q
    exact ⟨i, j, by rw [upd_ne (by rintro rfl; exact n (.inl q))]; exact h2, r⟩
  · obtain ⟨ps, h1, h2, h3⟩ := p.tabs t ht
    refine ⟨ps, by rw [upd_ne (by rintro e; exact n (.inr ⟨t.2, by rw [← e]; exact ht⟩))]; exact h1, h2, fun pos cv hc => ?_⟩
    obtain ⟨c, e1, e2⟩ := h3 pos cv hc
    exact ⟨c, e1, by rw [upd_ne (by rintro rfl; rw [h] at e2; cases e2)]; exact e2⟩
  · by_cases q : a = d
    · rw [q, upd_same] at e
      cases e
    · rw [upd_ne q] at e
      exact p.only a ps e
theorem tup_off {hs' : Addr → Prop} {q : Addr} {xs : List V} (p : Ok z hs' H) (h : H q = some (.tup xs)) : ¬ z.at q ∧ ¬ hs' q := by
  refine ⟨fun e => ?_, fun e => ?_⟩
  · rcases e with e | ⟨t, e⟩
    · obtain ⟨i, j, g, _⟩ := p.pot.two q e
      rw [h] at g
      cases g
    · obtain ⟨ps, g, _⟩ := p.pot.tabs _ e
      rw [h] at g
      cases g
  · obtain ⟨_, o, g, nt⟩ := p.tr q e
    rw [h] at g
    cases g
    exact nt _ rfl
theorem word_at {hs' : Addr → Prop} {q : Addr} {k : List Str} (p : Ok z hs' H) (h : H q = some (.tup (k.map V.str))) : R z (hid z hs' H) (.ref q) (wd k) := by
  obtain ⟨n1, n2⟩ := tup_off p h
  exact .tup (by rw [hid_ne n1 n2]; exact h) (strs_ra k)
theorem tkW_at {ks : List (List Str)} {i : Nat} {k : List Key} {v : V} (h : (tkW ks)[i]? = some (k, v)) : ∃ w, ks[i]? = some w ∧ k = w.map Sum.inr := by
  unfold tkW mpU at h
  rw [List.getElem?_map] at h
  cases hk : ks[i]? with
  | none => rw [hk] at h; cases h
  | some w =>
    rw [hk] at h
    exact ⟨w, rfl, (Prod.mk.inj (Option.some.inj h)).1.symm⟩
/-- [e for x in d if c], d a dict of words; of the other slots the flat ones are seen -/
theorem e_lcDT {i : Nat} {ks : List (List Str)} {g : TG} {vs : List Nat} {W : Nat → List D → Prop} (he : ρ[i]? = some (some (.dtk ks))) (hn : ks.length ≤ 1000000) (w0 : W 0 [])
    (w1 : ∀ i acc, i < ks.length → acc.length ≤ i → W i acc → GE z vs g (wipeD (ρ.map keepF) vs) (wd (ks.getD i [])) fun ρ' => ET z tt ρ' fun b => if b = true then E1 z te ρ' fun d => W (i + 1) (acc ++ [d]) else W (i + 1) acc)
    (w2 : ∀ acc, acc.length ≤ ks.length → W ks.length acc → P (.lst acc)) : E1 z (tLockE (tLc (iKeys (tVar i)) g tt te vs)) ρ P := fun hs σ H p s Q w => by
  obtain ⟨v, hv, r⟩ := s.get he
  cases r with
  | @dtk d _ hd =>
    obtain ⟨m1, m2, hd⟩ := hid_some hd
    have hd : H d = some (.dT (tkW ks)) := hd
    refine ⟨d, .dT (tkW ks), hd, True.intro, fun od => ?_⟩
    have p1 : Ok z (fun a => hs a ∨ a = d) (upd H d (.frz od (.dT (tkW ks)))) := ⟨pot_frz p.pot m1 ⟨_, hd⟩, fun a ha => by
      by_cases e : a = d
      · subst e
        exact ⟨m1, _, upd_same, fun _ h => by cases h⟩
      · obtain ⟨n1, o, ho, nt⟩ := p.tr a (ha.elim id fun h => absurd h e)
        exact ⟨n1, o, by rw [upd_ne e]; exact ho, nt⟩⟩
    refine ⟨_, hv, d, od, rfl, .inr ⟨tkW ks, upd_same, ?_⟩⟩
    show tLc (fun _ _ Rr => Rr (Itkt d od (tkW ks)) (upd H d (.frz od (.dT (tkW ks))))) g tt te vs σ (upd H d (.frz od (.dT (tkW ks)))) (fun v H' => H' d = some (.frz od (.dT (tkW ks))) ∧ Q v (upd H' d (.dT (tkW ks))))
    refine lc_core (J := Itkt d od (tkW ks)) (n := ks.length) (f := fun i => wd (ks.getD i [])) (W := W) (P := P) p1 (sr_flat s) (fun hs' H' p' ex i => ?_) hn w0 w1 w2 fun u H' dd e' p' r' q' => ?_
    · have hd' : H' d = some (.frz od (.dT (tkW ks))) := ex d _ m1 upd_same
      have hl : (tkW ks).length = ks.length := by unfold tkW mpU; rw [List.length_map]
      refine ⟨fun hi => ⟨⟨hd', by rw [hl]; exact hi⟩, fun x H2 ⟨e, k, v, q, hk, exx, hq⟩ => ?_⟩, fun hi => ⟨hd', by rw [hl]; exact hi⟩⟩
      subst e exx
      refine ⟨fun _ _ q => q, p', ?_⟩
      obtain ⟨wo, h1, h2⟩ := tkW_at hk
      subst h2
      rw [List.getD_eq_getElem?_getD, h1]
      rw [kVs_str] at hq
      exact word_at p' hq
    · have hd' : H' d = some (.frz od (.dT (tkW ks))) := e' d _ m1 upd_same
      refine ⟨hd', w u _ dd (fun a o n h => ?_) ⟨pot_thaw p'.pot m1 hd', fun a ha => ?_⟩ (R.mono (fun a o h => ?_) _ _ r') q'⟩
      · by_cases e : a = d
        · subst e
          rw [upd_same, ← hd, h]
        · rw [upd_ne e]
          exact e' a o n (by rw [upd_ne e]; exact h)
      · obtain ⟨n1, o, ho, nt⟩ := p'.tr a (.inl ha)
        have e : a ≠ d := by rintro rfl; exact m2 ha
        exact ⟨n1, o, by rw [upd_ne e]; exact ho, nt⟩
      · obtain ⟨k1, k2, h⟩ := hid_some h
        have e : a ≠ d := fun q => k2 (.inr q)
        rw [hid_ne k1 fun q => k2 (.inl q), upd_ne e]
        exact h
/-- list(d), d a dict of words -/
def rListT : List V → Hp → VK → Prop := fun xs H Q => ∃ d kvs, xs = [V.ref d] ∧ Rd H d (.dT kvs) ∧ ∀ p bs, H p = none → IsKeys H kvs bs → Q (.ref p) (upd H p (.lst (bs.map V.ref)))
theorem call_listT {X : Cx} (hc : X.calm = true) : CallR X (.type "list") rListT := call_list_dT hc
theorem o_listT {ks : List (List Str)} (q : P (.lst (ks.map wd))) : OC z rListT [.dtk ks] P := fun hs vs H p rs Q w => by
  cases rs with
  | cons r rs =>
    cases rs
    cases r with
    | dtk g1 =>
      refine ⟨_, tkW ks, rfl, .inl (hid_sub _ _ g1), fun a bs n ik => ?_⟩
      refine new_w w p n (fun H' ha ex => .lst ha (RA.mono ex _ _ ?_)) q
      have go : ∀ {ks : List (List Str)} {bs : List Addr}, IsKeys H (tkW ks) bs → RA z (hid z hs H) (bs.map V.ref) (ks.map wd) := by
        intro ks
        induction ks with
        | nil =>
          intro bs h
          cases h
          exact .nil
        | cons k ks ih =>
          intro bs h
          cases h with
          | cons h1 h2 =>
            rw [List.map_cons, List.map_cons]
            rw [kVs_str] at h1
            exact .cons (word_at p h1) (ih h2)
      exact go ik
end
end PD

set_option Elab.async false
set_option linter.all false
set_option maxRecDepth 100000
set_option maxHeartbeats 4000000
/-! PI24: sorted(texts or words, key=str), exactly. -/
namespace PD
open PySem PySem.Spec PyProof.Rows L2 PySem.W
def shW (k : List Str) : Str := (WS.enc k).shown
def KeyOf (K : PySem.W.Frag) (H : Hp) (v : V) (y : Str) : Prop := v = .str y ∨ ∃ (a : Addr) (k : List Str), v = .ref a ∧ Dp K H v (WS.enc k) ∧ y = shW k ∧ y.length ≤ sizeLine
def leS {α : Type} (f : α → Str) : α → α → Bool := dataLe false fun b => PyData.str (f b)
/-- sorted(e, key=str), e a list of texts and of words -/
def tSortKS (K : PySem.W.Frag) (te : TE) : TE := fun σ H Q => te σ H fun x H1 => ∃ (l : Addr) (bs : List (V × Str)), x = .ref l ∧ SqL K H1 l (bs.map (·.1)) ∧ (∀ b ∈ bs, KeyOf K H1 b.1 b.2) ∧ bs.length ≤ 1000000 ∧
  ∀ p, H1 p = none → Q (.ref p) (upd H1 p (.lst ((bs.mergeSort (leS (·.2))).map (·.1))))
theorem pyA_strs : ∀ k : List Str, pyA (k.map D.str) = k.map PyData.str
  | [] => by simp [pyA]
  | x :: k => by simp [pyA, py, pyA_strs k]
theorem showable_strs : ∀ k : List Str, PyData.showableAll (k.map .str) = true
  | [] => by simp [PyData.showableAll]
  | x :: k => by simp [PyData.showableAll, PyData.showable, showable_strs k]
theorem hasDict_strs : ∀ k : List Str, PyData.hasDictAll (k.map .str) = false
  | [] => by simp [PyData.hasDictAll]
  | x :: k => by simp [PyData.hasDictAll, PyData.hasDict, hasDict_strs k]
theorem each_of {Rr : Value → V × Str → Prop} : ∀ {bs : List (V × Str)} {us : List Value}, Vals (bs.map (·.1)) us → (∀ b ∈ bs, ∀ u, RelV b.1 u → Rr u b) → EachIs Rr us bs
  | [], _, h, _ => by cases h; exact .nil
  | b :: bs, _, h, g => by
    cases h with
    | cons r rs => exact .cons (g b List.mem_cons_self _ r) (each_of rs fun b hb => g b (List.mem_cons_of_mem _ hb))
theorem of_each {Rr : Value → V × Str → Prop} (hr : ∀ u b, Rr u b → RelV b.1 u) : ∀ {bs : List (V × Str)} {us : List Value}, EachIs Rr us bs → Vals (bs.map (·.1)) us
  | _, _, .nil => .nil
  | _, _, .cons r t => .cons (hr _ _ r) (of_each hr t)
theorem pe_sortKS {X : Cx} {e : Expr} {te : TE} {p1 p2 q1 q2 : Pos} (hgd : X.A.guards = some []) (hu : X.A.units + 64 < cLine) (hg : Gl X "sorted") (hm : X.mg "sorted" = none) (hg2 : Gl X "str") (hm2 : X.mg "str" = none) (he : PE X e te)
    (na : starEach [e] X.env = (false, eval e X.env) :: starEach [] X.env := by rfl) (h1 : backTo q1 (starEach [e] X.env) = (false, eval e X.env) :: backTo q1 (starEach [] X.env) := by rfl) (hpl : (backTo q1 (starEach [e] X.env)).any (·.1) = false := by rfl) : PE X (.Call (.Name "sorted" p1) [e] [⟨some "key", .Name "str" p2, q2⟩] q1) (tSortKS X.K te) := by
  refine ⟨fun pins s σ H Q I h => ?_⟩
  refine wpAny_Call_Name_kw (ld_blt I hg hm boot_sorted ?_)
  refine PyProof.Rows.callWith_kw (thn ((pa_cons he pa_nil na).run q1 pins s σ H (fun vs H1 => ∃ (l : Addr) (bs : List (V × Str)), vs = [V.ref l] ∧ SqL X.K H1 l (bs.map (·.1)) ∧ (∀ b ∈ bs, KeyOf X.K H1 b.1 b.2) ∧ bs.length ≤ 1000000 ∧ ∀ p, H1 p = none → Q (.ref p) (upd H1 p (.lst ((bs.mergeSort (leS (·.2))).map (·.1))))) I
    (by
      show te σ H _
      have h' : te σ H fun x H1 => ∃ (l : Addr) (bs : List (V × Str)), x = .ref l ∧ SqL X.K H1 l (bs.map (·.1)) ∧ (∀ b ∈ bs, KeyOf X.K H1 b.1 b.2) ∧ bs.length ≤ 1000000 ∧ ∀ p, H1 p = none → Q (.ref p) (upd H1 p (.lst ((bs.mergeSort (leS (·.2))).map (·.1)))) := h
      have ee : (fun (x : V) (H1 : Hp) => ∃ (l : Addr) (bs : List (V × Str)), x = .ref l ∧ SqL X.K H1 l (bs.map (·.1)) ∧ (∀ b ∈ bs, KeyOf X.K H1 b.1 b.2) ∧ bs.length ≤ 1000000 ∧ ∀ p, H1 p = none → Q (.ref p) (upd H1 p (.lst ((bs.mergeSort (leS (·.2))).map (·.1))))) = (fun x H1 => ∃ (l : Addr) (bs : List (V × Str)), [x] = [V.ref l] ∧ SqL X.K H1 l (bs.map (·.1)) ∧ (∀ b ∈ bs, KeyOf X.K H1 b.1 b.2) ∧ bs.length ≤ 1000000 ∧ ∀ p, H1 p = none → Q (.ref p) (upd H1 p (.lst ((bs.mergeSort (leS (·.2))).map (·.1))))) := by
        funext x H1
        simp only [List.cons.injEq, and_true]
      rw [ee] at h'
      exact h')) fun us s1 ⟨vs, H1, I1, r1, l, bs, ev, hq, ko, few, h1⟩ => ?_) h1 hpl rfl rfl
  subst ev
  obtain rfl : us = [.ref l] := by
    cases r1 with
    | cons r1 r2 => cases r1; cases r2; rfl
  show wpAny _ _ (evalAll [(do let v ← eval (.Name "str" p2) X.env; standAt q1; pure v)]) _ _ s1
  refine wpAny_evalAll_cons (wpAny_bind (ld_blt I1 hg2 hm2 PyProof.Rows.boot_str (wpAny_bind (wpAny_standAt (wpAny_pure (wpAny_evalAll_nil ?_))))))
  obtain ⟨its, rv, pl, hz⟩ := I1.list hq
  have eb : EachIs (fun (v : Value) (b : V × Str) => RelV b.1 v ∧ ((∃ t, v = .str b.2 t) ∨ ∃ a k as, v = .ref a ∧ Reads s1.heap (.ref a) (WS.enc k) as ∧ b.2 = shW k ∧ b.2.length ≤ sizeLine)) its bs := each_of rv fun b hb u ru => by
    refine ⟨ru, ?_⟩
    rcases ko b hb with h | ⟨a, k, h, dp, h2, h3⟩
    · rw [h] at ru
      exact .inl ru
    · obtain ⟨as, rd⟩ := Dp.reads I1 _ _ u dp ru
      rw [h] at ru
      cases ru
      exact .inr ⟨a, k, as, rfl, rd, h2, h3⟩
  refine sorted_key_data (f := .type "str") (b := false) (fun x : V × Str => .str x.2) pl.isList eb (AllAlike.of fun _ _ => by simp [alike]) (Sortable.others fun _ => ⟨by simp, by simp⟩) (by rw [sizeLine_eq]; omega) (fun p _ => by simp only [PyData.depth]; omega) (ksk_s1 _ _) (fun x => by unfold argsOk; kernel_rfl) (fun x => rfl)
    (fun v x hv hx h tk kp => ?_) fun out c h' tk kp fr ho hl ei => ?_
  · rcases hv.2 with ⟨t, rfl⟩ | ⟨a, k, as, rfl, rd, h2, h3⟩
    · exact PySem.P.str_of_str ⟨h, _, rfl, fun _ _ e => e, .str _ _⟩
    · have hd : (WS.enc k).depth ≤ 1 := by rw [WS.depth_enc]; omega
      refine str_of_reads rd (by unfold WS.enc; simp only [PyData.showable, showable_strs]) (fun h => by unfold WS.enc at h; simp only [PyData.hasDict, hasDict_strs] at h; cases h) hgd (by show X.A.units + 1 + 1 + _ < cLine; omega) kp (fun h' u tk hk => ⟨h', _, rfl, hk, ?_⟩) (by show (shW k).length ≤ _; rw [← h2]; exact h3)
      rw [h2]
      exact .str _ _
  · have pm := List.mergeSort_perm bs (leS (·.2))
    have hlen : ((bs.mergeSort (leS (·.2))).map (·.1)).length ≤ sizeLine := by
      rw [List.length_map, pm.length_eq, sizeLine_eq]
      omega
    have big : s1.heap.objs.size ≤ s1.heap.objs.size + 1 := Nat.le_succ _
    exact ⟨.ref _, upd H1 (s1.heap.objs.size + 1) (.lst ((bs.mergeSort (leS (·.2))).map (·.1))), I1.laid (t' := tk) kp big ⟨hlen, _, c, of_each (fun _ _ h => h.1) ei, ho⟩, rfl, h1 _ (I1.hok.fresh big)⟩
def srtW (ws : List (List Str)) : List (List Str) := ws.mergeSort (leS shW)
def srtS (xs : List Str) : List Str := xs.mergeSort (leS id)
section
variable {z : Zp} {hs : Addr → Prop} {ρ : List (Option D)} {P : D → Prop} {te : TE} {K : PySem.W.Frag}
theorem e_srtS (h : E1 z te ρ fun d => ∃ xs : List Str, d = .lst (xs.map D.str) ∧ xs.length ≤ 1000000 ∧ P (.lst ((srtS xs).map D.str))) : E1 z (tSortKS K te) ρ P := fun hs σ H p s Q w =>
  h hs σ H p s _ fun x H1 d e1 p1 rx ⟨xs, ed, hl, q⟩ => by
    subst ed
    cases rx with
    | @lst a vs _ g1 g2 =>
      have ev := ra_strs _ _ g2
      subst ev
      refine ⟨a, xs.map fun x => (V.str x, x), rfl, ?_, fun b hb => ?_, by rw [List.length_map]; exact hl, fun p n => ?_⟩
      · rw [List.map_map]
        exact .inl (.inl (hid_sub _ _ g1))
      · obtain ⟨x, _, rfl⟩ := List.mem_map.mp hb
        exact .inl rfl
      · have e : ((xs.map fun x => (V.str x, x)).mergeSort (leS (·.2))) = (srtS xs).map fun x => (V.str x, x) := (List.map_mergeSort (r := leS id) (f := fun x : Str => (V.str x, x)) fun a _ b _ => rfl).symm
        rw [e, List.map_map]
        exact new_w (w.back e1) p1 n (fun H' e1 e2 => .lst e1 (strs_ra (srtS xs))) q
theorem e_srtW (h : E1 z te ρ fun d => ∃ ws : List (List Str), d = .lst (ws.map wd) ∧ ws.length ≤ 1000000 ∧ (∀ k ∈ ws, okW k ∧ (shW k).length ≤ sizeLine) ∧ P (.lst ((srtW ws).map wd))) : E1 z (tSortKS K te) ρ P := fun hs σ H p s Q w =>
  h hs σ H p s _ fun x H1 d e1 p1 rx ⟨ws, ed, hl, hk, q⟩ => by
    subst ed
    cases rx with
    | @lst a vs _ g1 g2 =>
      have hlen : vs.length = ws.length := by rw [g2.length, List.length_map]
      have each : ∀ t ∈ vs.zip ws, R z (hid z hs H1) t.1 (wd t.2) ∧ t.2 ∈ ws := fun t ht => by
        obtain ⟨i, hi⟩ := List.getElem?_of_mem ht
        rw [List.getElem?_zip_eq_some] at hi
        obtain ⟨d, h1, r⟩ := g2.get hi.1
        rw [List.getElem?_map, hi.2] at h1
        cases h1
        exact ⟨r, List.mem_of_getElem? hi.2⟩
      have e1' : (vs.zip ws).map (·.1) = vs := List.map_fst_zip (by omega)
      have e2' : (vs.zip ws).map (·.2) = ws := List.map_snd_zip (by omega)
      refine ⟨a, (vs.zip ws).map fun t => (t.1, shW t.2), rfl, ?_, fun b hb => ?_, by rw [List.length_map, List.length_zip]; omega, fun p n => ?_⟩
      · rw [List.map_map, show ((fun b : V × Str => b.1) ∘ fun t : V × List Str => (t.1, shW t.2)) = (·.1) from rfl, e1']
        exact .inl (.inl (hid_sub _ _ g1))
      · obtain ⟨t, ht, rfl⟩ := List.mem_map.mp hb
        obtain ⟨r, hm⟩ := each t ht
        obtain ⟨ok, sz⟩ := hk _ hm
        have dp : Dp K H1 t.1 (.tuple (t.2.map .str)) := by
          have := R.dp (K := K) _ _ (isPy_wd t.2) (SeqAt.canLay_of_shaped (shaped_wd ok)) (R.mono hid_sub _ _ r)
          simpa only [py, wd, pyA_strs] using this
        have r' : R z (hid z hs H1) t.1 (.tup (t.2.map D.str)) := r
        cases hv : t.1 with
        | ref c =>
          rw [hv] at dp
          exact .inr ⟨c, t.2, rfl, dp, rfl, sz⟩
        | _ => rw [hv] at r'; cases r'
      · have e3 : ((vs.zip ws).map fun t => (t.1, shW t.2)).mergeSort (leS (·.2)) = ((vs.zip ws).mergeSort (leS fun t => shW t.2)).map fun t => (t.1, shW t.2) := (List.map_mergeSort (r := leS fun t : V × List Str => shW t.2) (f := fun t : V × List Str => (t.1, shW t.2)) fun a _ b _ => rfl).symm
        have e4 : srtW ws = ((vs.zip ws).mergeSort (leS fun t => shW t.2)).map (·.2) := by
          unfold srtW
          conv => lhs; rw [← e2']
          exact (List.map_mergeSort (r := leS fun t : V × List Str => shW t.2) (f := fun t : V × List Str => t.2) fun a _ b _ => rfl).symm
        rw [e3, List.map_map]
        rw [e4] at q
        have go : ∀ ts : List (V × List Str), (∀ t ∈ ts, R z (hid z hs H1) t.1 (wd t.2)) → RA z (hid z hs H1) (ts.map (·.1)) ((ts.map (·.2)).map wd) := by
          intro ts
          induction ts with
          | nil => intro _; exact .nil
          | cons t ts ih => intro h; exact .cons (h t List.mem_cons_self) (ih fun t ht => h t (List.mem_cons_of_mem _ ht))
        exact new_w (w.back e1) p1 n (fun H' f1 f2 => .lst f1 (RA.mono f2 _ _ (go _ fun t ht => (each t ((List.mergeSort_perm _ _).mem_iff.mp ht)).1))) q
end
end PD

set_option Elab.async false
set_option linter.all false
set_option maxRecDepth 100000
set_option maxHeartbeats 4000000
/-! PI25: the order by shown text. -/
namespace PD
open PySem PySem.Spec PyProof.Rows L2 PySem.W
theorem leS_eq {α : Type} (f : α → Str) : leS f = fun a b => decide ((f a).cps.toList ≤ (f b).cps.toList) := dataLe_str f
theorem leS_total {α : Type} (f : α → Str) : TotalLe (leS f) := by
  unfold leS dataLe
  exact sortLe_total _ _ _
theorem slt_of_le {x y : Str} (h : x.cps.toList ≤ y.cps.toList) (n : x ≠ y) : slt x y := by
  rcases str_tri n with q | q
  · exact q
  · exact absurd q (List.not_lt.mpr h)
theorem srtS_perm (xs : List Str) : (srtS xs).Perm xs := List.mergeSort_perm _ _
theorem srtW_perm (ws : List (List Str)) : (srtW ws).Perm ws := List.mergeSort_perm _ _
theorem srtS_ord {xs : List Str} (nd : xs.Nodup) : OrdS xs (srtS xs) := by
  refine ⟨?_, fun k => (srtS_perm xs).mem_iff⟩
  have h1 := (sort_pairwise (leS_total id) xs).and ((srtS_perm xs).nodup_iff.mpr nd)
  refine h1.imp fun {a b} ⟨h, n⟩ => ?_
  rw [leS_eq] at h
  exact slt_of_le (of_decide_eq_true h) n
theorem cps_app (a b : Str) : (a ++ b).cps.toList = a.cps.toList ++ b.cps.toList := by
  show (a.cps ++ b.cps).toList = _
  simp
/-- a letter as it is shown -/
def qt (x : Str) : List Nat := 39 :: (x.cps.toList ++ [39])
theorem rch (c : Nat) (h : 97 ≤ c ∧ c ≤ 122) : Builtin.Str.reprChar 39 c = [c] := by
  have e : ((List.range 26).all fun i => decide (Builtin.Str.reprChar 39 (97 + i) = [97 + i])) = true := by decide +kernel
  have := List.all_eq_true.mp e (c - 97) (List.mem_range.mpr (by omega))
  rw [show 97 + (c - 97) = c by omega] at this
  exact of_decide_eq_true this
theorem fold_rch : ∀ (l : List Nat) (acc : Array Nat), (∀ c ∈ l, 97 ≤ c ∧ c ≤ 122) → (l.foldl (fun out c => out ++ (Builtin.Str.reprChar 39 c).toArray) acc).toList = acc.toList ++ l
  | [], acc, _ => by simp
  | c :: l, acc, h => by
    rw [List.foldl_cons, fold_rch l _ fun c hc => h c (List.mem_cons_of_mem _ hc), rch c (h c List.mem_cons_self)]
    simp
theorem qt_eq {x : Str} (h : ∀ c ∈ x.cps.toList, 97 ≤ c ∧ c ≤ 122) : (reprText x).cps.toList = qt x := by
  have hq : reprQuote x = 39 := by
    unfold reprQuote
    have : x.cps.contains 39 = false := by
      rw [Bool.eq_false_iff]
      intro hc
      have := h 39 (by simpa using hc)
      omega
    rw [this]
    rfl
  unfold reprText
  rw [hq]
  show ((x.cps.foldl (fun out c => out ++ (Builtin.Str.reprChar 39 c).toArray) #[39]).push 39).toList = qt x
  rw [← Array.foldl_toList, Array.toList_push, fold_rch _ _ h]
  rfl
/-- letters with a comma between them -/
def bd : List Str → List Nat
  | [] => []
  | [x] => qt x
  | x :: y :: k => qt x ++ 44 :: 32 :: bd (y :: k)
theorem bd_eq : ∀ {k : List Str}, (∀ x ∈ k, ∀ c ∈ x.cps.toList, 97 ≤ c ∧ c ≤ 122) → (Str.join ", " (PyData.shownAll (k.map .str))).cps.toList = bd k
  | [], _ => rfl
  | [x], h => by
    show (reprText x).cps.toList = qt x
    exact qt_eq (h x List.mem_cons_self)
  | x :: y :: k, h => by
    have ih := bd_eq (k := y :: k) fun z hz => h z (List.mem_cons_of_mem _ hz)
    have e : PyData.shownAll ((x :: y :: k).map .str) = reprText x :: PyData.shownAll ((y :: k).map .str) := by simp only [List.map_cons, PyData.shownAll, PyData.shown]
    rw [e]
    have e2 : ∃ a r, PyData.shownAll ((y :: k).map .str) = a :: r := ⟨_, _, by simp only [List.map_cons, PyData.shownAll]; rfl⟩
    obtain ⟨a, r, e2⟩ := e2
    rw [e2] at ih ⊢
    show (reprText x ++ (", " : Str) ++ Str.join ", " (a :: r)).cps.toList = qt x ++ 44 :: 32 :: bd (y :: k)
    rw [cps_app, cps_app, ih, qt_eq (h x List.mem_cons_self)]
    show (qt x ++ [44, 32]) ++ bd (y :: k) = _
    simp
theorem shown_len : ∀ k : List Str, (PyData.shownAll (k.map PyData.str)).length = k.length
  | [] => rfl
  | x :: k => by simp [PyData.shownAll, shown_len k]
theorem shW_eq {k : List Str} (h : ∀ x ∈ k, ∀ c ∈ x.cps.toList, 97 ≤ c ∧ c ≤ 122) : (shW k).cps.toList = 40 :: (bd k ++ (if k.length == 1 then [44, 41] else [41])) := by
  have e : shW k = ("(" : Str) ++ Str.join ", " (PyData.shownAll (k.map .str)) ++ (if (PyData.shownAll (k.map .str)).length == 1 then ",)" else ")" : String) := by
    unfold shW WS.enc
    simp only [PyData.shown]
    rfl
  have hl : (PyData.shownAll (k.map PyData.str)).length = k.length := shown_len k
  rw [e, cps_app, cps_app, bd_eq h, hl]
  by_cases q : k.length = 1
  · rw [if_pos (by simp [q]), if_pos (by simp [q])]
    rfl
  · rw [if_neg (by simp [q]), if_neg (by simp [q])]
    rfl
theorem lt_ends : ∀ {xs ys : List Nat} {s t : List Nat}, xs < ys → (∀ c ∈ ys, 39 < c) → xs ++ 39 :: s < ys ++ 39 :: t
  | _, [], _, _, h, _ => absurd h (by simp)
  | [], y :: ys, s, t, _, g => List.cons_lt_cons_iff.mpr (.inl (g y List.mem_cons_self))
  | x :: xs, y :: ys, s, t, h, g => by
    rcases List.cons_lt_cons_iff.mp h with h | ⟨e, h⟩
    · exact List.cons_lt_cons_iff.mpr (.inl h)
    · exact List.cons_lt_cons_iff.mpr (.inr ⟨e, lt_ends h fun c hc => g c (List.mem_cons_of_mem _ hc)⟩)
theorem lt_pre : ∀ {p a b : List Nat}, a < b → p ++ a < p ++ b
  | [], _, _, h => h
  | x :: p, _, _, h => List.cons_lt_cons_iff.mpr (.inr ⟨rfl, lt_pre h⟩)
theorem bd_lt : ∀ {k l : List Str}, k.length = l.length → lexS k l = true → (∀ x ∈ l, ∀ c ∈ x.cps.toList, 97 ≤ c ∧ c ≤ 122) → ∀ s t : List Nat, bd k ++ s < bd l ++ t
  | [], _, _, h, _, _, _ => by simp [lexS] at h
  | _ :: _, [], h, _, _, _, _ => by simp at h
  | x :: k, y :: l, hl, h, g, s, t => by
    by_cases e : x = y
    · subst e
      simp only [lexS, if_true] at h
      match k, l, hl, h with
      | [], _, _, h => simp [lexS] at h
      | _ :: _, [], hl, _ => simp at hl
      | a :: k, b :: l, hl, h =>
        show (qt x ++ 44 :: 32 :: bd (a :: k)) ++ s < (qt x ++ 44 :: 32 :: bd (b :: l)) ++ t
        rw [List.append_assoc, List.append_assoc]
        exact lt_pre (List.cons_lt_cons_iff.mpr (.inr ⟨rfl, List.cons_lt_cons_iff.mpr (.inr ⟨rfl, bd_lt (by simpa using hl) h (fun z hz => g z (List.mem_cons_of_mem _ hz)) s t⟩)⟩))
    · simp only [lexS, if_neg e, decide_eq_true_eq] at h
      have hd : ∀ (x : Str) (k : List Str), ∃ r, bd (x :: k) = qt x ++ r := fun x k => by
        cases k with
        | nil => exact ⟨[], by simp [bd]⟩
        | cons a k => exact ⟨_, rfl⟩
      obtain ⟨r, e1⟩ := hd x k
      obtain ⟨r2, e2⟩ := hd y l
      rw [e1, e2]
      unfold qt
      simp only [List.cons_append, List.append_assoc, List.singleton_append, List.nil_append]
      exact List.cons_lt_cons_iff.mpr (.inr ⟨rfl, lt_ends h fun c hc => by have := g y List.mem_cons_self c hc; omega⟩)
theorem gw_lo {k : List Str} (h : gw k) : ∀ x ∈ k, ∀ c ∈ x.cps.toList, 97 ≤ c ∧ c ≤ 122 := fun x hx c hc => alph_lo ((sgn_iff.mp (h.2 x hx)).2.2 c hc)
theorem shW_lt {k l : List Str} (hk : gw k) (hl : gw l) (e : k.length = l.length) (h : lexS k l = true) : (shW k).cps.toList < (shW l).cps.toList := by
  rw [shW_eq (gw_lo hk), shW_eq (gw_lo hl)]
  exact List.cons_lt_cons_iff.mpr (.inr ⟨rfl, bd_lt e h (gw_lo hl) _ _⟩)
theorem bd_len : ∀ {k : List Str}, (∀ x ∈ k, x.length ≤ 8) → (bd k).length ≤ 12 * k.length
  | [], _ => by simp [bd]
  | [x], h => by
    have : x.cps.toList.length ≤ 8 := by rw [Array.length_toList]; exact h x List.mem_cons_self
    simp only [bd, qt, List.length_cons, List.length_append, List.length_nil]
    omega
  | x :: y :: k, h => by
    have ih := bd_len (k := y :: k) fun z hz => h z (List.mem_cons_of_mem _ hz)
    have : x.cps.toList.length ≤ 8 := by rw [Array.length_toList]; exact h x List.mem_cons_self
    simp only [bd, qt, List.length_cons, List.length_append, List.length_nil] at ih ⊢
    omega
theorem shW_len {k : List Str} (h : gw k) : (shW k).length ≤ 100 := by
  have e : (shW k).length = (shW k).cps.toList.length := by rw [Array.length_toList]; rfl
  rw [e, shW_eq (gw_lo h)]
  have := bd_len fun x hx => (sgn_iff.mp (h.2 x hx)).2.1
  have h3 := h.1
  simp only [List.length_cons, List.length_append]
  split <;> simp only [List.length_cons, List.length_nil] <;> omega
theorem shW_sz {k : List Str} (h : gw k) : okW k ∧ (shW k).length ≤ sizeLine := ⟨gw_ok h, szl (Nat.le_trans (shW_len h) (by decide))⟩
theorem srtW_lex {ws : List (List Str)} {m : Nat} (nd : ws.Nodup) (g : ∀ k ∈ ws, gw k) (hm : ∀ k ∈ ws, k.length = m) : (srtW ws).Pairwise wlt := by
  have h1 := (sort_pairwise (leS_total shW) ws).and ((srtW_perm ws).nodup_iff.mpr nd)
  have h2 := List.Pairwise.and_mem.mp h1
  refine h2.imp fun {a b} ⟨ha, hb, h, n⟩ => ?_
  have ha := (srtW_perm ws).mem_iff.mp ha
  have hb := (srtW_perm ws).mem_iff.mp hb
  have el : a.length = b.length := (hm a ha).trans (hm b hb).symm
  refine .inr ⟨el, ?_⟩
  rw [leS_eq] at h
  rcases lexS_tri a b el n with q | q
  · exact q
  · exact absurd (shW_lt (g b hb) (g a ha) el.symm q) (List.not_lt.mpr (of_decide_eq_true h))
/-- the words of each length, one length behind another -/
def lnd (ws : List (List Str)) (n : Nat) : List (List Str) := ((List.range n).map fun m => srtW ((addU [] ws).filter fun k => decide (k.length = m))).flatten
theorem lnd_mem {ws : List (List Str)} {n : Nat} {k : List Str} : k ∈ lnd ws n ↔ k ∈ ws ∧ k.length < n := by
  unfold lnd
  rw [List.mem_flatten]
  constructor
  · rintro ⟨l, hl, hk⟩
    obtain ⟨m, hm, rfl⟩ := List.mem_map.mp hl
    have h := List.mem_filter.mp ((srtW_perm _).mem_iff.mp hk)
    refine ⟨?_, ?_⟩
    · rcases mem_addU.mp h.1 with h | h
      · cases h
      · exact h
    · have := of_decide_eq_true h.2
      have := List.mem_range.mp hm
      omega
  · rintro ⟨h1, h2⟩
    exact ⟨_, List.mem_map.mpr ⟨k.length, List.mem_range.mpr h2, rfl⟩, (srtW_perm _).mem_iff.mpr (List.mem_filter.mpr ⟨mem_addU.mpr (.inr h1), by simp⟩)⟩
theorem lnd_step {ws : List (List Str)} {n : Nat} : lnd ws (n + 1) = lnd ws n ++ srtW ((addU [] ws).filter fun k => decide (k.length = n)) := by
  unfold lnd
  rw [List.range_succ, List.map_append, List.flatten_append]
  simp
theorem lnd_srt {ws : List (List Str)} (g : ∀ k ∈ ws, gw k) : ∀ n, (lnd ws n).Pairwise wlt
  | 0 => .nil
  | n + 1 => by
    rw [lnd_step]
    refine List.pairwise_append.mpr ⟨lnd_srt g n, srtW_lex (m := n) ((nodup_addU List.nodup_nil).sublist List.filter_sublist) (fun k hk => ?_) (fun k hk => of_decide_eq_true (List.mem_filter.mp hk).2), fun a ha b hb => .inl ?_⟩
    · rcases mem_addU.mp (List.mem_filter.mp hk).1 with h | h
      · cases h
      · exact g k h
    · have h1 := (lnd_mem.mp ha).2
      have h2 := of_decide_eq_true (List.mem_filter.mp ((srtW_perm _).mem_iff.mp hb)).2
      omega
theorem lnd_ord {ws : List (List Str)} (g : ∀ k ∈ ws, gw k) : IsOrd ws (lnd ws 4) := ⟨lnd_srt g 4, fun k => lnd_mem.trans ⟨fun h => h.1, fun h => ⟨h, by have := (g k h).1; omega⟩⟩⟩
end PD

set_option Elab.async false
set_option linter.all false
set_option maxRecDepth 100000
set_option maxHeartbeats 4000000
/-! PI26: methods that give new lists; lists told and emptied; own[i] = e; constants of classes; repr by an own def; texts with shown data in them. -/
namespace PD
open PySem PySem.Spec PyProof.Rows L2
section
variable {z : Zp} {hs : Addr → Prop} {ρ : List (Option D)} {r : List Sl} {P : D → Prop} {te ta tb ti : TE} {tr : TA} {tt : TT} {K : PySem.W.Frag} {out : Out} {C : Addr}
theorem was_none {H H1 : Hp} {a : Addr} (e : ExZ z H H1) (p : Ok z hs H1) (n : H1 a = none) : H a = none := by
  cases h0 : H a with
  | none => rfl
  | some o => rw [e a o (p.off n).1 h0] at n; cases n
theorem n_meth {m : Str} {N : Nat} {Prm : List D → Prop} {Psm : List D → List D → Prop} {PL : List D → Prop} {E : XK} (h : E1 z ta ρ fun d => ∃ fs, d = .obj C fs ∧ fs.lookup m = none ∧ EA z tr ρ fun ds => (d :: ds).length = N ∧ Prm (d :: ds) ∧ (∀ es, Psm (d :: ds) es → PL es)) :
    E1N z (tMeth C m (spN N Prm Psm) [] E ta tr) ρ PL := fun hs σ H p s Q w =>
  h hs σ H p s _ fun v H1 d e1 p1 rv ⟨fs, ed, hl, h1⟩ => by
    subst ed
    have rv' := rv
    cases rv with
    | obj g1 g2 =>
      refine ⟨_, _, _, rfl, hid_sub _ _ g1, g2.lookup_none hl, h1 hs σ H1 p1 (s.mono (exz_hid e1)) _ fun vs H2 ds e2 p2 rs ⟨hn, hp, hq⟩ => ?_⟩
      rw [List.append_nil]
      exact ⟨z, hs, _, hn, hp, p2, .cons (R.mono (exz_hid e2) _ _ rv') rs, fun a us H' es e p' n ha ra q => w a us H' es ((e1.trans e2).trans e) p' (was_none (e1.trans e2) p2 n) ha ra (hq es q)⟩
/-! ### new lists, several -/
def LL (z : Zp) (hs : Addr → Prop) (as : List Addr) (H : Hp) (a : Addr) (ds : List D) : Prop := ∃ vs, H a = some (.lst vs) ∧ RA z (hid z (fun b => hs b ∨ b ∈ as) H) vs ds
def EAN (z : Zp) (tr : TA) (ρ : List (Option D)) (PLL : List (List D) → Prop) : Prop := ∀ hs σ H, Ok z hs H → SR z (hid z hs H) σ ρ → ∀ Q : List V → Hp → Prop,
  (∀ as H' dss, ExZ z H H' → Ok z hs H' → as.Nodup → (∀ a ∈ as, H a = none) → Paired (fun a ds => LL z hs as H' a ds) as dss → PLL dss → Q (as.map V.ref) H') → tr σ H Q
theorem an_nil {PLL : List (List D) → Prop} (h : PLL []) : EAN z tNil ρ PLL := fun hs σ H p s Q w => w [] H [] (ExZ.refl z H) p .nil (fun _ h => by cases h) .nil h
theorem pr_mp {α β : Type} {F G : α → β → Prop} : ∀ {l : List α} {m : List β}, (∀ a ∈ l, ∀ b, F a b → G a b) → Paired F l m → Paired G l m
  | _, _, _, .nil => .nil
  | _, _, i, .cons h t => .cons (i _ List.mem_cons_self _ h) (pr_mp (fun a ha => i a (List.mem_cons_of_mem _ ha)) t)
theorem an_cons {PLL : List (List D) → Prop} (h : E1N z te ρ fun ds => EAN z tr ρ fun dss => PLL (ds :: dss)) : EAN z (tCons te tr) ρ PLL := fun hs σ H p s Q w =>
  h hs σ H p s _ fun a vs H1 ds e1 p1 n1 ha ra h1 => by
    have o1 := p.off n1
    have pa : Ok z (fun b => hs b ∨ b = a) H1 := ⟨p1.pot, fun b hb => hb.elim (p1.tr b) fun e => by
      subst e
      exact ⟨o1.1, _, ha, fun _ h => by cases h⟩⟩
    refine h1 (fun b => hs b ∨ b = a) σ H1 pa (s.mono fun b o hb => ?_) _ fun as H2 dss e2 p2 nd fr pr q => ?_
    · obtain ⟨m1, m2, hb⟩ := hid_some hb
      rw [hid_ne m1 (fun h => h.elim m2 fun e => by rw [e, n1] at hb; cases hb)]
      exact e1 b o m1 hb
    · have sub : ∀ b, (hs b ∨ b = a) ∨ b ∈ as → hs b ∨ b ∈ a :: as := fun b hb => by
        rcases hb with (hb | hb) | hb
        · exact .inl hb
        · exact .inr (hb ▸ List.mem_cons_self)
        · exact .inr (List.mem_cons_of_mem _ hb)
      refine w (a :: as) H2 (ds :: dss) (e1.trans e2) ⟨p2.pot, fun b hb => p2.tr b (.inl hb)⟩ (List.nodup_cons.mpr ⟨fun hm => ?_, nd⟩) (fun b hb => ?_) (.cons ⟨vs, e2 a _ o1.1 ha, RA.mono (fun b o hb => ?_) _ _ ra⟩ (pr_mp (fun b _ ds ⟨us, h1, h2⟩ => ⟨us, h1, RA.mono (fun c o hc => ?_) _ _ h2⟩) pr)) q
      · rw [fr a hm] at ha
        cases ha
      · rcases List.mem_cons.mp hb with rfl | hb
        · exact n1
        · exact was_none e1 p1 (fr b hb)
      · obtain ⟨m1, m2, hb⟩ := hid_some hb
        rw [hid_ne m1 (by
          rintro (q | q)
          · exact m2 (.inl q)
          · rcases List.mem_cons.mp q with q | q
            · exact m2 (.inr q)
            · rw [fr b q] at hb; cases hb)]
        exact e2 b o m1 hb
      · obtain ⟨m1, m2, hc⟩ := hid_some hc
        rw [hid_ne m1 (by
          rintro (q | q)
          · exact m2 (.inl (.inl q))
          · rcases List.mem_cons.mp q with q | q
            · exact m2 (.inl (.inr q))
            · exact m2 (.inr q))]
        exact hc
/-- for x in [new lists]: if t: ..; x.clear() -/
theorem x_forClear {i : Nat} {t : TS} (hi : i < r.length) (h : EAN z tr (r.map Sl.dat) fun dss => dss ≠ [] ∧ dss.length ≤ 1000 ∧ (∀ ds ∈ dss, ET z tt ((r.set i (.va (.lst ds))).map Sl.dat) fun b => b = false) ∧ out.nx (r.set i .un)) :
    X1 z (tFor (iList K (tLst tr)) (gName i) (tSeq (tIfS tt t tNext) (tDrop (tBM0 K "list" rClear (tVar i))))) r out := fun hs σ H O s F w =>
  h (hsO hs O) σ H s.okO s.ss.dat _ fun as H1 dss e1 p1 nd fr pr ⟨ne, hl, ht, hn⟩ => ⟨by rw [List.length_map, Paired.length pr]; exact szl hl, fun l nl => by
    have ol := p1.off nl
    have nal : ∀ a ∈ as, a ≠ l := fun a ha e => by
      obtain ⟨j, hj⟩ := List.getElem?_of_mem ha
      have hlt : j < dss.length := by
        rw [← Paired.length pr]
        exact (List.getElem?_eq_some_iff.mp hj).1
      obtain ⟨a', ha', vs, hv, _⟩ := prd_at pr j dss[j] (List.getElem?_eq_getElem hlt)
      rw [hj] at ha'
      cases ha'
      rw [e, nl] at hv
      cases hv
    have e2 : ExZ z H (upd H1 l (.lst (as.map V.ref))) := e1.trans (ExZ.new nl)
    have p2 : Ok z (hsO hs O) (upd H1 l (.lst (as.map V.ref))) := p1.new nl
    have fl : H l = none := was_none e1 p1 nl
    refine ⟨l, rfl, ⟨_, .inl (.inl upd_same)⟩, fun j m σ' H' => m = as.length - j ∧ j ≤ as.length ∧ ExZ z H H' ∧ Ok z (hsO hs O) H' ∧ H' l = some (.lst (as.map V.ref)) ∧ (∀ k, j ≤ k → ∀ a ds, as[k]? = some a → dss[k]? = some ds → LL z (hsO hs O) as H' a ds) ∧ ((j = 0 ∧ σ' = σ) ∨ ∃ x, σ' = σ.set i x), ⟨as.length, rfl, Nat.zero_le _, e2, p2, upd_same, fun k _ a ds ha hd => ?_, .inl ⟨rfl, rfl⟩⟩, ?_⟩
    · obtain ⟨a', ha', vs, hv, rv⟩ := prd_at pr k ds hd
      rw [ha] at ha'
      cases ha'
      refine ⟨vs, by rw [upd_ne (nal a (List.mem_of_getElem? ha))]; exact hv, RA.mono (fun b o hb => ?_) _ _ rv⟩
      obtain ⟨m1, m2, hb⟩ := hid_some hb
      have nb : b ≠ l := ne_of_none hb nl
      rw [hid_ne m1 m2, upd_ne nb]
      exact hb
    rintro j m σ' H' ⟨rfl, hj, ex, p', hL, hLL, hσ⟩
    by_cases hlt : j < as.length
    · have hlt2 : j < dss.length := by rw [← Paired.length pr]; exact hlt
      have ga : as[j]? = some as[j] := List.getElem?_eq_getElem hlt
      refine .inr ⟨⟨as.map V.ref, V.ref as[j], .inl (.inl hL), by rw [List.getElem?_map, ga]; rfl⟩, fun σ2 H2 => ExZ z H H2 ∧ Ok z (hsO hs O) H2 ∧ H2 l = some (.lst (as.map V.ref)) ∧ (∀ k, j + 1 ≤ k → ∀ a ds, as[k]? = some a → dss[k]? = some ds → LL z (hsO hs O) as H2 a ds) ∧ ∃ x, σ2 = σ.set i x, fun σ2 H2 q => ⟨as.length - (j + 1), by omega, rfl, hlt, q.1, q.2.1, q.2.2.1, q.2.2.2.1, .inr q.2.2.2.2⟩, fun x H2 ⟨e, y⟩ => ?_⟩
      subst e
      have hx : x = V.ref as[j] := by
        have := y (as.map V.ref) (.inl (.inl hL))
        rw [List.getElem?_map, ga] at this
        exact (Option.some.inj this).symm
      subst hx
      obtain ⟨vs, hv, rv⟩ := hLL j (Nat.le_refl _) as[j] dss[j] ga (List.getElem?_eq_getElem hlt2)
      have nH : H as[j] = none := fr _ (List.getElem_mem hlt)
      have oa := s.okO.off nH
      have sH : St1 z hs H2 σ r O := s.next ex (okO_ok p')
      have es : σ'.set i (some (V.ref as[j])) = σ.set i (some (V.ref as[j])) := by
        rcases hσ with ⟨_, rfl⟩ | ⟨x, rfl⟩
        · rfl
        · exact List.set_set ..
      show (fun σ2 H3 => _) (σ'.set i (some (V.ref as[j]))) H2
      rw [es]
      have rj : R z (hid z (hsO hs O) H2) (V.ref as[j]) (.lst dss[j]) := .lst (by rw [hid_ne oa.1 oa.2]; exact hv) (RA.mono (hid_less fun b hb => .inl hb) _ _ rv)
      obtain ⟨O', sub, s3⟩ := sH.setVa rj i
      refine ht dss[j] (List.getElem_mem hlt2) (hsO hs O') _ H2 s3.okO s3.ss.dat _ fun b H3 e3 p3 hb => ?_
      subst hb
      rw [if_neg (by decide)]
      show (fun σ2 H3 => _) _ H3
      have ex3 : ExZ z H2 H3 := e3
      have hv3 : H3 as[j] = some (.lst vs) := ex3 _ _ oa.1 hv
      have hget : (σ.set i (some (V.ref as[j])))[i]? = some (some (V.ref as[j])) := by
        have hiσ : i < σ.length := by rw [s.ss.len]; exact hi
        rw [List.getElem?_set, if_pos rfl, if_pos hiσ]
      refine ⟨V.ref as[j], hget, .inl ⟨rfl, vs, .inl (.inl hv3)⟩, as[j], vs, rfl, rfl, hv3, ?_⟩
      have ok3 : Ok z (hsO hs O) H3 := p'.next ex3 p3.pot
      refine ⟨fun a o n ho => ?_, ⟨ok3.pot.upd oa.1 hv3, fun a ha => ?_⟩, ?_, fun k hk a ds ha hd => ?_, _, rfl⟩
      · have na : a ≠ as[j] := ne_of_none ho nH
        rw [upd_ne na]
        exact ex3 a o n (ex a o n ho)
      · obtain ⟨n1, o, ho, nt⟩ := ok3.tr a ha
        have na : a ≠ as[j] := fun e => oa.2 (e ▸ ha)
        exact ⟨n1, o, by rw [upd_ne na]; exact ho, nt⟩
      · rw [upd_ne (nal _ (List.getElem_mem hlt)).symm]
        exact ex3 _ _ ol.1 hL
      · obtain ⟨us, hu, ru⟩ := hLL k (by omega) a ds ha hd
        have na : a ≠ as[j] := fun e => by
          obtain ⟨hk2, he⟩ := List.getElem?_eq_some_iff.mp ha
          exact (List.pairwise_iff_getElem.mp nd j k hlt hk2 (by omega)) (e.symm.trans he.symm)
        have oa2 := s.okO.off (fr a (List.mem_of_getElem? ha))
        refine ⟨us, by rw [upd_ne na]; exact ex3 _ _ oa2.1 hu, ?_⟩
        rw [hid_upd (.inr (.inr (List.getElem_mem hlt)))]
        exact RA.mono (exz_hid ex3) _ _ ru
    · have : j = as.length := by omega
      subst this
      have h0 : as.length ≠ 0 := fun e => ne (List.length_eq_zero_iff.mp (by rw [← Paired.length pr]; exact e))
      refine .inl ⟨⟨as.map V.ref, .inl (.inl hL), by rw [List.length_map]; exact Nat.le_refl _⟩, ?_⟩
      rcases hσ with ⟨e, _⟩ | ⟨x, rfl⟩
      · exact absurd e h0
      · have sH : St1 z hs H' σ r O := s.next ex (okO_ok p')
        obtain ⟨O', sub, s3⟩ := sH.setUn x i
        exact w.nx _ H' _ O' (.less ex sub) s3 hn⟩
end
end PD

set_option Elab.async false
set_option linter.all false
set_option maxRecDepth 100000
set_option maxHeartbeats 4000000
/-! PI27: own[i] = e; constants of classes; repr by an own def; texts with shown data in them. -/
namespace PD
open PySem PySem.Spec PyProof.Rows L2 ClX
section
variable {z : Zp} {hs : Addr → Prop} {ρ : List (Option D)} {r : List Sl} {P : D → Prop} {te ta tb ti : TE} {tr : TA} {K : PySem.W.Frag} {out : Out} {C : Addr}
theorem ra_set {G : Hp} {v : V} {d : D} : ∀ {ds : List D} {vs : List V}, RA z G vs ds → R z G v d → ∀ j, RA z G (vs.set j v) (ds.set j d)
  | [], _, h, _, _ => by cases h; exact .nil
  | _ :: _, _, h, rv, 0 => by cases h with | cons h1 h2 => exact .cons rv h2
  | _ :: _, _, h, rv, j + 1 => by cases h with | cons h1 h2 => exact .cons h1 (ra_set h2 rv j)
/-- own[i] = e -/
theorem x_setAt {i : Nat} {ds : List D} (he : r[i]? = some (.ow ds)) (h : E1 z te (r.map Sl.dat) fun d => E1 z ti (r.map Sl.see) fun e => ∃ j : Nat, e = .int (j : Nat) ∧ j < ds.length ∧ out.nx (r.set i (.ow (ds.set j d)))) : X1 z (tAsg te (gSub (tVar i) ti rSetL)) r out := fun hs σ H O s F w => by
  refine s.ev h fun v H1 d e1 s1 rv h1 => ?_
  obtain ⟨p, vs, a, b, c, dd⟩ := s1.ss.own he
  refine ⟨.ref p, a, ?_⟩
  refine s1.see h1 fun x H2 e e2 s2 rx ⟨j, ej, hj, q⟩ => ?_
  subst ej
  cases rx
  obtain ⟨p', vs', a', b', c', d'⟩ := s2.ss.own he
  have : p' = p := by
    rw [a] at a'
    have := Option.some.inj (Option.some.inj a')
    cases this
    rfl
  subst this
  have hl := d'.length
  refine ⟨p', vs', (j : Int), j, rfl, rfl, c', ?_, ?_⟩
  · unfold ixN
    rw [if_pos (by omega), if_pos (by omega)]
    rfl
  · obtain ⟨n, s3⟩ := s2.change he a' b' (ra_set d' (R.mono (exz_hid e2) _ _ rv) j)
    exact w.nx _ _ _ O (((Nxt.of e1).trans (Nxt.of e2)).trans n) s3 q
/-- a class's constant, read off the class -/
theorem e_cval {f : Str} (h : E1 z ta ρ fun d => ∃ (C : Addr) (mc : Value) (n : Int) (u : Value), d = .raw (.ref C) ∧ CRead K C mc ∧ CVal K C mc f (.int n) u ∧ P (.int n)) : E1 z (tCVal K ta f) ρ P := fun hs σ H p s Q w =>
  h hs σ H p s _ fun v H1 d e1 p1 rv ⟨C, mc, n, u, ed, c1, c2, q⟩ => by
    subst ed
    cases rv
    exact ⟨C, mc, _, u, rfl, c1, c2, (w.back e1).here p1 (.int n) q⟩
/-- .. off an instance -/
theorem e_con {f : Str} (h : E1 z ta ρ fun d => ∃ (C : Addr) (fs : List (Str × D)) (n : Int) (u : Value), d = .obj C fs ∧ Cls K C ∧ Con K C f (.int n) u ∧ fs.lookup f = none ∧ P (.int n)) : E1 z (tCon K ta f) ρ P := fun hs σ H p s Q w =>
  h hs σ H p s _ fun v H1 d e1 p1 rv ⟨C, fs, n, u, ed, c1, c2, hl, q⟩ => by
    subst ed
    cases rv with
    | obj g1 g2 => exact ⟨_, C, _, _, _, u, rfl, hid_sub _ _ g1, c1, c2, g2.lookup_none hl, (w.back e1).here p1 (.int n) q⟩
/-- repr(e), e of an own class -/
theorem o_reprO {Pre : List D → Prop} {Post : List D → D → Prop} {E : XK} {d : D} (h : ∃ fs, d = .obj C fs ∧ Pre [d] ∧ ∀ e, Post [d] e → ∃ t, e = .str t ∧ P (.str t)) (c : ObC K C) : OC z (rReprO C (spD 1 Pre Post) E) [d] P := fun hs xs H p rs Q w => by
  obtain ⟨fs, ed, hp, hq⟩ := h
  subst ed
  cases rs with
  | cons rr rs =>
    cases rs
    have rr' := rr
    cases rr with
    | obj g1 g2 =>
      refine ⟨_, rfl, ⟨_, _, _, rfl, hid_sub _ _ g1⟩, z, hs, [_], rfl, hp, p, .cons rr' .nil, fun v H' e ex p' re qe => ?_⟩
      obtain ⟨t, rfl, q⟩ := hq e qe
      cases re
      exact ⟨t, rfl, w _ H' _ ex p' (.str t) q⟩
/-- f"..{e!r}.." of a list of words -/
theorem e_fmtWs (h : E1 z te ρ fun d => ∃ ws : List (List Str), d = .lst (ws.map wd) ∧ okWs ws ∧ (py (.lst (ws.map wd))).shown.length ≤ sizeLine ∧ P (.str (py (.lst (ws.map wd))).shown)) : E1 z (tFmtW K te) ρ P := fun hs σ H p s Q w =>
  h hs σ H p s _ fun v H1 d e1 p1 rv ⟨ws, ed, ok, hz, q⟩ => by
    subst ed
    have dp : Dp K H1 v (py (.lst (ws.map wd))) := R.dp _ _ (by simp only [isPy, isPyA_wds]) (SeqAt.canLay_of_shaped (shaped_wds ok)) (R.mono hid_sub _ _ rv)
    cases rv with
    | lst g1 g2 =>
      refine ⟨_, _, rfl, dp, ?_, ?_, ?_, hz, (w.back e1).here p1 (.str _) q⟩
      · have : ∀ ws : List (List Str), PyData.showableAll (ws.map fun k => PyData.tuple (k.map .str)) = true := fun ws => by
          induction ws with
          | nil => simp [PyData.showableAll]
          | cons k ws ih => simp [PyData.showableAll, PyData.showable, showable_strs, ih]
        simp only [py, pyA_wds, PyData.showable, this]
      · have : ∀ ws : List (List Str), PyData.hasDictAll (ws.map fun k => PyData.tuple (k.map .str)) = false := fun ws => by
          induction ws with
          | nil => simp [PyData.hasDictAll]
          | cons k ws ih => simp [PyData.hasDictAll, PyData.hasDict, hasDict_strs, ih]
        simp only [py, pyA_wds, PyData.hasDict, this]
      · have := depth_encs ws
        unfold WS.enc at this
        simp only [py, pyA_wds, PyData.depth]
        omega
/-- the parts of a text, one behind another -/
def EJ (z : Zp) (ts : List TE) (acc : Str) (ρ : List (Option D)) (PS : Str → Prop) : Prop := ∀ hs σ H, Ok z hs H → SR z (hid z hs H) σ ρ → ∀ Q : Str → Hp → Prop, (∀ o H', ExZ z H H' → Ok z hs H' → PS o → Q o H') → tJs ts acc σ H Q
theorem ej_nil {acc : Str} {PS : Str → Prop} (h : PS acc) : EJ z [] acc ρ PS := fun hs σ H p s Q w => w acc H (ExZ.refl z H) p h
theorem ej_cons {acc : Str} {PS : Str → Prop} {ts : List TE} (h : E1 z te ρ fun d => ∃ y : Str, d = .str y ∧ (acc ++ y).length ≤ sizeLine ∧ EJ z ts (acc ++ y) ρ PS) : EJ z (te :: ts) acc ρ PS := fun hs σ H p s Q w =>
  h hs σ H p s _ fun v H1 d e1 p1 rv ⟨y, ed, hz, q⟩ => by
    subst ed
    cases rv
    exact ⟨y, rfl, hz, q hs σ H1 p1 (s.mono (exz_hid e1)) _ fun o H' e p' ho => w o H' (e1.trans e) p' ho⟩
theorem e_joined {ts : List TE} (h : EJ z ts Str.empty ρ fun o => P (.str o)) : E1 z (fun σ H Q => tJs ts Str.empty σ H fun out H1 => Q (.str out) H1) ρ P := fun hs σ H p s Q w =>
  h hs σ H p s _ fun o H' e p' q => w _ H' _ e p' (.str o) q
theorem emp_app (x : Str) : Str.empty ++ x = x := str_eq_of (by rw [cps_app]; rfl)
theorem app_len (x y : Str) : (x ++ y).length = x.length + y.length := by
  show (x.cps ++ y.cps).size = _
  rw [Array.size_append]
  rfl
end
end PD

set_option Elab.async false
set_option linter.all false
set_option maxRecDepth 100000
set_option maxHeartbeats 4000000
/-! PI28: a new list of flat things told while an own list is seen; any. -/
namespace PD
open PySem PySem.Spec PyProof.Rows L2
section
variable {z : Zp} {G H H1 : Hp} {hs : Addr → Prop} {σ : L2.St} {r : List Sl} {O : List Addr} {out : Out} {te : TE} {K : PySem.W.Frag} {P : D → Prop}
theorem flat2A_own (h : SS z G H1 σ r O) : ∀ {ds : List D} {vs : List V}, (∀ d ∈ ds, flat2 d = true) → RA z (hid z hs H1) vs ds → RA z (hid z (hsO hs O) H1) vs ds
  | [], _, _, q => by cases q; exact .nil
  | d :: ds, _, f, q => by
    cases q with
    | cons q1 q2 => exact .cons (flat2_own (f d List.mem_cons_self) h q1) (flat2A_own h (fun e he => f e (List.mem_cons_of_mem _ he)) q2)
theorem x_asgNT {i : Nat} (h : E1N z te (r.map Sl.see) fun ds => (∀ d ∈ ds, flat2 d = true) ∧ out.nx (r.set i (.va (.lst ds)))) : X1 z (tAsg te (gName i)) r out := fun hs σ H O s F w =>
  h hs σ H s.ok s.sr _ fun p vs H1 ds e1 p1 n hp ra ⟨f, q⟩ => by
    have s1 := s.next e1 p1
    have o := s.okO.off n
    refine g_name q hs σ H1 O s1 (.ref p) (.lst (by rw [hid_ne o.1 o.2]; exact hp) (flat2A_own s1.ss f (RA.mono (hid_less fun a h => .inl h) _ _ ra))) _ (w.nx.back (.of e1))
theorem o_any {ds : List D} (h : ∃ bs : List Bool, ds = [.lst (bs.map D.bl)] ∧ P (.bl (bs.any id))) : OC z (rAny K) ds P := fun hs xs H p rs Q w => by
  obtain ⟨bs, rfl, q⟩ := h
  cases rs with
  | cons r rs =>
    cases rs
    cases r with
    | lst h1 h2 => exact ⟨_, bs, rfl, by rw [← ra_bools bs _ h2]; exact .inl (.inl (hid_sub _ _ h1)), w.here p (.bl _) q⟩
end
section
variable {X : Cx} {K : PySem.W.Frag} {CX : CXT} {k : Nat} {C f : Addr} {fd : FuncData} {ps : List Str} {sp : Sp} {E : XK}
/-- own == and != within a comprehension -/
theorem op_eqOK (hK : X.K = K) (F : FnOk X.prog X.w X.K X.mg X.base CX k f fd ps sp) (hr : Room k X.A) (hb : Binds X.K fd ps []) (hs : PySem.W.findIn X.K (.ref C) "__eq__" = some (some (.ref f))) (hf : PySem.W.isFn X.K (.ref f) = true) (hx : Passes CX X E) : OpR X (compareOp .Eq) (rEqO K C sp E) := by
  subst hK
  exact op_eqO F hr hb hs hf hx
theorem op_neOK (hK : X.K = K) (F : FnOk X.prog X.w X.K X.mg X.base CX k f fd ps sp) (hr : Room (k + 1) X.A) (hb : Binds X.K fd ps []) (hs : PySem.W.findIn X.K (.ref C) "__eq__" = some (some (.ref f))) (hf : PySem.W.isFn X.K (.ref f) = true)
    (hne : PySem.W.findIn X.K (.ref C) "__ne__" = some (some (.builtin "object.__ne__"))) (ho : PySem.W.mroIn X.K C (.type "object") = some true) (hx : Passes CX X E) : OpR X (compareOp .NotEq) (rNeO K C sp E) := by
  subst hK
  exact op_neO F hr hb hs hf hne ho hx
end
end PD

set_option Elab.async false
set_option linter.all false
set_option maxRecDepth 100000
set_option pp.maxSteps 120
set_option maxHeartbeats 4000000
/-! K21a: the text's facts. -/
namespace K21
open PySem PySem.Spec PyProof.Rows L2 PD
def topS (i : Nat) : Stmt := PySem.Challenge.pw_wakesayings_k21_whole_sayings_by_own_lis.main.body.getD i (.Pass ⟨0, 0, 0, 0⟩)
abbrev s_is_list : Stmt := topS 12
abbrev s_is_name : Stmt := topS 13
abbrev s_is_letter : Stmt := topS 16
abbrev s_is_word : Stmt := topS 17
abbrev s_want_words : Stmt := topS 18
abbrev s_all_beginnings : Stmt := topS 19
abbrev s_ordered : Stmt := topS 20
abbrev s_closed : Stmt := topS 23
abbrev s_are_few : Stmt := topS 27
abbrev s_wrong_position : Stmt := topS 28
abbrev s_want_triggers : Stmt := topS 29
abbrev s_want_makes : Stmt := topS 30
abbrev s_letters_in : Stmt := topS 31
abbrev s_law_pot : Stmt := topS 34
abbrev s_law_draw : Stmt := topS 35
abbrev s_law_pick : Stmt := topS 36
abbrev s_law_tags : Stmt := topS 37
abbrev s_law_all : Stmt := topS 38
abbrev s_law_lined : Stmt := topS 39
abbrev s_law_verses : Stmt := topS 40
abbrev s_law_saw : Stmt := topS 41
abbrev s_law_mixed : Stmt := topS 42
abbrev s_law_tags_in : Stmt := topS 43
abbrev s_law_closed : Stmt := topS 44
abbrev s_law_tells : Stmt := topS 45
abbrev s_law_near : Stmt := topS 46
abbrev s_law_right : Stmt := topS 47
abbrev s_law : Stmt := topS 48
abbrev s_Saying___init__ : Stmt := inClass (topS 32) 1
abbrev s_Saying_triggers : Stmt := inClass (topS 32) 2
abbrev s_Saying_makes : Stmt := inClass (topS 32) 3
abbrev s_Saying_letters : Stmt := inClass (topS 32) 4
abbrev s_Saying_make_letters : Stmt := inClass (topS 32) 5
abbrev s_Saying_trigger_front : Stmt := inClass (topS 32) 6
abbrev s_Saying_make_front : Stmt := inClass (topS 32) 7
abbrev s_Saying_with_triggers : Stmt := inClass (topS 32) 8
abbrev s_Saying_with_makes : Stmt := inClass (topS 32) 9
abbrev s_Saying___eq__ : Stmt := inClass (topS 32) 10
abbrev s_Saying___repr__ : Stmt := inClass (topS 32) 11
abbrev s_Front___init__ : Stmt := inClass (topS 24) 1
abbrev s_Front_words : Stmt := inClass (topS 24) 3
abbrev s_Front___eq__ : Stmt := inClass (topS 24) 15
structure Txt (P : Program) (w : World) (K : PySem.W.Frag) (mg : Str → Option Value) (base : Heap) (Tb : List (Addr × Str)) : Prop where
  n_isinstance : mg "isinstance" = none
  n_str : mg "str" = none
  n_tuple : mg "tuple" = none
  n_list : mg "list" = none
  n_len : mg "len" = none
  n_all : mg "all" = none
  n_any : mg "any" = none
  n_set : mg "set" = none
  n_sorted : mg "sorted" = none
  n_range : mg "range" = none
  n_enumerate : mg "enumerate" = none
  n_max : mg "max" = none
  n_min : mg "min" = none
  n_abs : mg "abs" = none
  n_int : mg "int" = none
  n_divmod : mg "divmod" = none
  n_repr : mg "repr" = none
  n_dict : mg "dict" = none
  MOST_SIGNS : ∃ t, mg "MOST_SIGNS" = some (.int 8 t)
  SIGNS : ∃ t, mg "SIGNS" = some (.str "abcdefghijklmnopqrstuvwxyz" t)
  LONGEST_WORD : ∃ t, mg "LONGEST_WORD" = some (.int 3 t)
  MOST_WORDS : ∃ t, mg "MOST_WORDS" = some (.int 3 t)
  d_is_list : ∃ f fd, Df K mg "is_list" s_is_list ["value"] f fd
  d_is_name : ∃ f fd, Df K mg "is_name" s_is_name ["value"] f fd
  d_is_letter : ∃ f fd, Df K mg "is_letter" s_is_letter ["value"] f fd
  d_is_word : ∃ f fd, Df K mg "is_word" s_is_word ["value"] f fd
  d_want_words : ∃ f fd, Df K mg "want_words" s_want_words ["value"] f fd
  d_all_beginnings : ∃ f fd, Df K mg "all_beginnings" s_all_beginnings ["word"] f fd
  d_ordered : ∃ f fd, Df K mg "ordered" s_ordered ["words"] f fd
  d_closed : ∃ f fd, Df K mg "closed" s_closed ["words"] f fd
  d_are_few : ∃ f fd, Df K mg "are_few" s_are_few ["value"] f fd
  d_wrong_position : ∃ f fd, Df K mg "wrong_position" s_wrong_position ["words"] f fd
  d_want_triggers : ∃ f fd, Df K mg "want_triggers" s_want_triggers ["value"] f fd
  d_want_makes : ∃ f fd, Df K mg "want_makes" s_want_makes ["value"] f fd
  d_letters_in : ∃ f fd, Df K mg "letters_in" s_letters_in ["words"] f fd
  d__law_pot : ∃ f fd, Df K mg "_law_pot" s_law_pot ["_law_script", "_law_at"] f fd
  d__law_draw : ∃ f fd, Df K mg "_law_draw" s_law_draw ["_law_pot_here", "_law_sides"] f fd
  d__law_pick : ∃ f fd, Df K mg "_law_pick" s_law_pick ["_law_pot_here", "_law_some"] f fd
  d__law_tags : ∃ f fd, Df K mg "_law_tags" s_law_tags ["_law_pot_here", "_law_amount"] f fd
  d__law_all : ∃ f fd, Df K mg "_law_all" s_law_all ["_law_tags_here", "_law_most"] f fd
  d__law_lined : ∃ f fd, Df K mg "_law_lined" s_law_lined ["_law_verses_here"] f fd
  d__law_verses : ∃ f fd, Df K mg "_law_verses" s_law_verses ["_law_pot_here", "_law_tags_here"] f fd
  d__law_saw : ∃ f fd, Df K mg "_law_saw" s_law_saw ["_law_pot_here", "_law_tags_here"] f fd
  d__law_mixed : ∃ f fd, Df K mg "_law_mixed" s_law_mixed ["_law_pot_here", "_law_some"] f fd
  d__law_tags_in : ∃ f fd, Df K mg "_law_tags_in" s_law_tags_in ["_law_verses_here"] f fd
  d__law_closed : ∃ f fd, Df K mg "_law_closed" s_law_closed ["_law_verses_here"] f fd
  d__law_tells : ∃ f fd, Df K mg "_law_tells" s_law_tells ["_law_one", "_law_saw_here"] f fd
  d__law_near : ∃ f fd, Df K mg "_law_near" s_law_near ["_law_pot_here", "_law_tags_here", "_law_saw_here"] f fd
  d__law_right : ∃ f fd, Df K mg "_law_right" s_law_right ["_law_pot_here"] f fd
  d_law : ∃ f fd, Df K mg "law" s_law ["_law_script"] f fd
  g_WakeError : mg "WakeError" = some (.ref (He.ga K "WakeError"))
  g_MissingError : mg "MissingError" = some (.ref (He.ga K "MissingError"))
  g_InvalidWords : mg "InvalidWords" = some (.ref (He.ga K "InvalidWords"))
  g_InvalidFront : mg "InvalidFront" = some (.ref (He.ga K "InvalidFront"))
  g_InvalidTriggers : mg "InvalidTriggers" = some (.ref (He.ga K "InvalidTriggers"))
  g_InvalidMakes : mg "InvalidMakes" = some (.ref (He.ga K "InvalidMakes"))
  g_UnknownLetter : mg "UnknownLetter" = some (.ref (He.ga K "UnknownLetter"))
  g_Front : mg "Front" = some (.ref (He.ga K "Front"))
  g_Saying : mg "Saying" = some (.ref (He.ga K "Saying"))
  k_Front_Saying : PySem.W.kitOne K (.ref (He.ga K "Front")) (.ref (He.ga K "Saying")) = some false
  kt_NoneType_Saying : PySem.W.kitOne K (.type "NoneType") (.ref (He.ga K "Saying")) = some false
  kt_int_Saying : PySem.W.kitOne K (.type "int") (.ref (He.ga K "Saying")) = some false
  kt_tuple_Saying : PySem.W.kitOne K (.type "tuple") (.ref (He.ga K "Saying")) = some false
  kt_list_Saying : PySem.W.kitOne K (.type "list") (.ref (He.ga K "Saying")) = some false
  kt_str_Saying : PySem.W.kitOne K (.type "str") (.ref (He.ga K "Saying")) = some false
  cv_Saying_MOST : ∃ mc t, ClX.CRead K (He.ga K "Saying") mc ∧ ClX.CVal K (He.ga K "Saying") mc "MOST" (.int 3) (.int 3 t)
  ci_Saying_MOST : ∃ t, Con K (He.ga K "Saying") "MOST" (.int 3) (.int 3 t)
  m_Saying___init__ : ∃ f fd , Mf K (He.ga K "Saying") "__init__" "Saying.__init__" s_Saying___init__ ["self", "triggers", "makes"] f fd 
  m_Saying_triggers : ∃ f fd , Mf K (He.ga K "Saying") "triggers" "Saying.triggers" s_Saying_triggers ["self"] f fd 
  m_Saying_makes : ∃ f fd , Mf K (He.ga K "Saying") "makes" "Saying.makes" s_Saying_makes ["self"] f fd 
  m_Saying_letters : ∃ f fd , Mf K (He.ga K "Saying") "letters" "Saying.letters" s_Saying_letters ["self"] f fd 
  m_Saying_make_letters : ∃ f fd , Mf K (He.ga K "Saying") "make_letters" "Saying.make_letters" s_Saying_make_letters ["self"] f fd 
  m_Saying_trigger_front : ∃ f fd , Mf K (He.ga K "Saying") "trigger_front" "Saying.trigger_front" s_Saying_trigger_front ["self"] f fd 
  m_Saying_make_front : ∃ f fd , Mf K (He.ga K "Saying") "make_front" "Saying.make_front" s_Saying_make_front ["self"] f fd 
  m_Saying_with_triggers : ∃ f fd , Mf K (He.ga K "Saying") "with_triggers" "Saying.with_triggers" s_Saying_with_triggers ["self", "triggers"] f fd 
  m_Saying_with_makes : ∃ f fd , Mf K (He.ga K "Saying") "with_makes" "Saying.with_makes" s_Saying_with_makes ["self", "makes"] f fd 
  m_Saying___eq__ : ∃ f fd , Mf K (He.ga K "Saying") "__eq__" "Saying.__eq__" s_Saying___eq__ ["self", "other"] f fd 
  m_Saying___repr__ : ∃ f fd , Mf K (He.ga K "Saying") "__repr__" "Saying.__repr__" s_Saying___repr__ ["self"] f fd 
  m_Front___init__ : ∃ f fd , MfE K (He.ga K "Front") "__init__" "Front.__init__" s_Front___init__ ["self", "words"] f fd 
  m_Front_words : ∃ f fd , Mf K (He.ga K "Front") "words" "Front.words" s_Front_words ["self"] f fd 
  m_Front___eq__ : ∃ f fd , Mf K (He.ga K "Front") "__eq__" "Front.__eq__" s_Front___eq__ ["self", "other"] f fd 
  ne_Saying : PySem.W.findIn K (.ref (He.ga K "Saying")) "__ne__" = some (some (.builtin "object.__ne__"))
  sf_Saying : PySem.W.selfFirst K (He.ga K "Saying") = true
  ne_Front : PySem.W.findIn K (.ref (He.ga K "Front")) "__ne__" = some (some (.builtin "object.__ne__"))
  sf_Front : PySem.W.selfFirst K (He.ga K "Front") = true
  o_Saying : Oc K mg "Saying" ["own_triggers", "own_makes"] (He.ga K "Saying")
  o_Front : Oc K mg "Front" ["own_words"] (He.ga K "Front")
section
variable {K : PySem.W.Frag} {f : Addr} {fd : FuncData}
theorem kb_Saying___init__R (F : Fun K "__init__" "Saying.__init__" s_Saying___init__ f fd) : KBn K fd ["self", "triggers", "makes"] 1 ["makes", "triggers"] kSR kSR := by
  obtain ⟨_, _, _, _, _, _, _, _, _, rfl, _, _⟩ := F.ex
  exact ⟨fun s us ws _ h1 h2 => match us, h1, ws, h2 with | [_], _, [_, _], _ => .of_eq rfl, kSR_rel⟩

end
theorem pe_tupleOfK {X : Cx} {K : PySem.W.Frag} {a : Expr} {ta : TE} {p pos : Pos} (hK : X.K = K) (hg : Gl X "tuple") (hm : X.mg "tuple" = none) (ha : PE X a ta) (na : starEach [a] X.env = (false, eval a X.env) :: starEach [] X.env := by rfl) :
    PE X (.Call (.Name "tuple" p) [a] [] pos) (tThen ta (kTup K)) := by
  subst hK
  exact pe_tupleOf hg hm ha na
theorem units1 {k : Nat} {A : Around} (r : Room k A) : A.units + 1 < cLine := by have := r.un; omega
end K21

set_option Elab.async false
set_option linter.all false
set_option maxRecDepth 100000
set_option pp.maxSteps 120
set_option maxHeartbeats 4000000
/-! K21b: the pot, drawing, picking. -/
namespace K21
open PySem PySem.Spec PyProof.Rows L2 PD
theorem ok_pot {z : Zp} {a : Addr} {hs : Addr → Prop} {H : Hp} {i j : Int} {xs : List V} (hz : z.pot = some a) (p : Ok z hs H) (e : H a = some (.lst xs)) (h0 : 0 ≤ i) (h1 : 0 ≤ j) (h2 : j < 2147483648) : ExZ z H (upd H a (.lst [.int i, .int j])) ∧ Ok z hs (upd H a (.lst [.int i, .int j])) := by
  have ex : ExZ z H (upd H a (.lst [.int i, .int j])) := fun b o n h => by rw [upd_ne (fun e => n (.inl (by rw [e]; exact hz)))]; exact h
  refine ⟨ex, p.next ex ⟨fun b hb => ?_, fun t ht => ?_, fun b ps hb => ?_⟩⟩
  · rw [hz] at hb
    cases hb
    exact ⟨i, j, upd_same, h0, h1, h2⟩
  · obtain ⟨ps, g1, g2, g3⟩ := p.pot.tabs t ht
    refine ⟨ps, by rw [upd_ne (fun q => by rw [q, e] at g1; cases g1)]; exact g1, g2, fun pos cv hc => ?_⟩
    obtain ⟨c, q1, q2⟩ := g3 pos cv hc
    exact ⟨c, q1, by rw [upd_ne (by rintro rfl; rw [e] at q2; cases q2)]; exact q2⟩
  · by_cases q : b = a
    · rw [q, upd_same] at hb
      cases hb
    · rw [upd_ne q] at hb
      exact p.pot.only b ps hb
def preDraw (ds : List D) : Prop := ∃ n : Int, ds = [.pot, .int n] ∧ 0 < n ∧ n < 1073741824
def postDraw (ds : List D) (d : D) : Prop := ∃ n k : Int, ds = [.pot, .int n] ∧ d = .int k ∧ 0 ≤ k ∧ k < n
def prePick (ds : List D) : Prop := (∃ e xs, ds = [.pot, e] ∧ (e = .lst xs ∨ e = .tup xs) ∧ 0 < xs.length ∧ xs.length < 1000000) ∨ ∃ x : Str, ds = [.pot, .str x] ∧ 0 < x.length ∧ x.length < 1000
def postPick (ds : List D) (d : D) : Prop := (∃ e xs, ds = [.pot, e] ∧ (e = .lst xs ∨ e = .tup xs) ∧ d ∈ xs) ∨ ∃ (x : Str) (c : Nat), ds = [.pot, .str x] ∧ c ∈ x.cps.toList ∧ d = .str ⟨#[c]⟩
theorem at_of {α : Type} {xs : List α} {k : Int} (h0 : 0 ≤ k) (h1 : k < xs.length) : ∃ v, atI xs k = some v ∧ v ∈ xs := by
  have hk : k.toNat < xs.length := by omega
  refine ⟨xs[k.toNat], ?_, List.getElem_mem hk⟩
  unfold atI ixN
  rw [if_pos h0, if_pos h1, Option.bind_some, List.getElem?_eq_getElem hk]
theorem small_int {i : Int} (h : i.natAbs < 10 ^ 40) : Small (.int i) := by
  refine ⟨rfl, ?_, ?_, Nat.zero_le _⟩
  · simp only [py, PyData.showable, decide_eq_true_eq]
    by_cases e : i.natAbs = 0
    · rw [e]; decide +kernel
    · exact (Nat.log2_lt e).mpr (Nat.lt_trans h (by decide +kernel))
  · simp only [py, PyData.shown]
    have key : ∀ n : Nat, n < 10 ^ 40 → (Str.ofString (toString (n : Int))).length ≤ 40 := fun n hn => by
      rw [ofString_len]
      exact (Nat.length_repr_le_iff (n := n) (by decide : 0 < 40)).mpr hn
    by_cases hi : i < 0
    · have e := len_text_neg hi
      have := key i.natAbs h
      have e2 : (0 : Int) - i = (i.natAbs : Int) := by omega
      rw [e2] at e
      have e' : (Str.ofString (toString i)).length = 1 + (Str.ofString (toString (i.natAbs : Int))).length := e
      show (Str.ofString (toString i)).length ≤ 1000
      omega
    · have := key i.natAbs h
      have e2 : ((i.natAbs : Nat) : Int) = i := by omega
      rw [e2] at this
      exact Nat.le_trans this (by decide)
section
variable {P : Program} {w : World} {K : PySem.W.Frag} {mg : Str → Option Value} {base : Heap} {Tb : List (Addr × Str)}
abbrev N_law_draw : List Str := ["_law_pot_here", "_law_sides", "_law_digit"]
theorem sc_law_draw : FnScope N_law_draw ["_law_pot_here", "_law_sides"] (defScope s_law_draw) := ⟨rfl, rfl, rfl, by decide +kernel, rfl, by decide +kernel, by decide +kernel⟩
theorem ok_law_draw (T : Txt P w K mg base Tb) {f : Addr} {fd : FuncData} (Dd : Df K mg "_law_draw" s_law_draw ["_law_pot_here", "_law_sides"] f fd) : FnOk P w K mg base CX0 1 f fd ["_law_pot_here", "_law_sides"] (spD 2 preDraw postDraw) := by
  refine Dd.F.ok sc_law_draw (fun vs H Q E q => by rw [spD_len vs H Q E q]; rfl) (fun cdv A outer s H vs Q E hr h => ?_)
  have nd := sc_law_draw.nd
  obtain ⟨z, hs, ds, hl, ⟨n, rfl, n0, n1⟩, p, r, wd⟩ := h
  have nDiv := T.n_divmod
  have nInt := T.n_int
  cases r with
  | cons r1 r =>
  cases r with
  | cons r2 r =>
  cases r
  cases r2
  cases r1 with
  | @pot a e =>
  obtain ⟨i, j, ha, i0, j0, j1⟩ := p.pot.two a e
  have ix0 : ∀ H' : Hp, H' a = some (.lst [.int i, .int j]) → SqL K H' a [.int i, .int j] := fun H' h => .inl (.inl h)
  refine ⟨_, pss_cons (ps_if (pt_cmpR op_gt (pe_ix ix_list (pv 0) pe_int (by intro _ _; rfl)) pe_int (nomark _))
      (pss_cons (ps_asg (pe_callB call_divmod rfl nDiv boot_divmod (pa_cons (pe_ix ix_list (pv 0) pe_int (by intro _ _; rfl)) (pa_cons (pv 1) pa_nil)))
        (pg_tup rfl (pgs_cons (pg_sub (pv 0) pe_int set_list) (pgs_cons (pg_name (i := 2) nd rfl (Or.inl rfl)) pgs_nil))))
      (pss_one (ps_ret (pv 2)))) pss_nil)
    (pss_cons (ps_asg (pe_op op_mod (pe_callTy call_int1 rfl nInt boot_int (pa_cons (pe_op op_add (pe_op op_mul (pe_ix ix_list (pv 0) pe_int (by intro _ _; rfl)) pe_int) pe_int) pa_nil)) pe_int) (pg_sub (pv 0) pe_int set_list))
    (pss_one (ps_ret (pe_op op_mod (pe_callTy call_int1 rfl nInt boot_int (pa_cons (pe_op op_fdiv (pe_op op_mod (pe_callTy call_int1 rfl nInt boot_int (pa_cons (pe_op op_mul (pe_ix ix_list (pv 0) pe_int (by intro _ _; rfl)) (pe_ix ix_list (pv 0) pe_int (by intro _ _; rfl))) pa_nil)) pe_int) pe_int) pa_nil)) (pv 1))))), ?_⟩
  refine ⟨_, rfl, a, _, _, _, rfl, rfl, ix0 _ ha, rfl, _, _, rfl, rfl, _, rfl, iteD (fun hi => ?_) (fun hi => ?_)⟩
  · refine ⟨_, rfl, a, _, _, _, rfl, rfl, ix0 _ ha, rfl, _, rfl, _, _, rfl, ⟨n0, n1⟩, fun t nt => ?_⟩
    have nat : a ≠ t := ne_of_none ha nt
    have ha1 : upd H t (.tup [.int (i / n), .int (i % n)]) a = some (.lst [.int i, .int j]) := by rw [upd_ne nat]; exact ha
    refine ⟨t, _, rfl, .inl (.inl upd_same), rfl, _, _, rfl, _, rfl, a, _, _, _, rfl, rfl, ha1, rfl, _, _, rfl, rfl, _, rfl, ?_⟩
    obtain ⟨e2, p2⟩ := ok_pot e (p.new (o := .tup [.int (i / n), .int (i % n)]) nt) ha1 (i := i / n) (j := j) (Int.ediv_nonneg i0 (Int.le_of_lt n0)) j0 j1
    exact wd _ _ (.int (i % n)) ((ExZ.new nt).trans e2) p2 (.int _) ⟨n, _, rfl, rfl, Int.emod_nonneg _ (by omega), Int.emod_lt_of_pos _ n0⟩
  · obtain ⟨e2, p2⟩ := ok_pot e p ha (i := i) (j := (j * 48731 + 12007) % 2147483579) i0 (by omega) (by omega)
    refine ⟨_, rfl, a, _, _, _, rfl, rfl, ix0 _ ha, rfl, _, _, rfl, rfl, .inl ⟨by omega, by omega⟩, _, _, rfl, rfl, .inl ⟨_, rfl, _, _, rfl, rfl, (by show (0 : Int) < _; decide), ?_⟩⟩
    refine ⟨_, rfl, a, _, _, _, rfl, rfl, ha, rfl, ?_⟩
    have ha2 : upd H a (.lst [.int i, .int ((j * 48731 + 12007) % 2147483579)]) a = some (.lst [.int i, .int ((j * 48731 + 12007) % 2147483579)]) := upd_same
    refine ⟨_, rfl, a, _, _, _, rfl, rfl, .inl (.inl ha2), rfl, _, rfl, a, _, _, _, rfl, rfl, .inl (.inl ha2), rfl, _, _, rfl, rfl, .inl ⟨by omega, by omega⟩, .inl ⟨_, rfl, _, _, rfl, rfl, (by show (0 : Int) < _; decide), _, _, rfl, rfl, ⟨by decide, by decide⟩, .inl ⟨_, rfl, _, rfl, _, _, rfl, rfl, n0, ?_⟩⟩⟩
    exact wd _ _ (.int _) e2 p2 (.int _) ⟨n, _, rfl, rfl, Int.emod_nonneg _ (by omega), Int.emod_lt_of_pos _ n0⟩
abbrev N_law_pick : List Str := ["_law_pot_here", "_law_some"]
theorem sc_law_pick : FnScope N_law_pick ["_law_pot_here", "_law_some"] (defScope s_law_pick) := ⟨rfl, rfl, rfl, by decide +kernel, rfl, by decide +kernel, by decide +kernel⟩
theorem ok_law_pick (T : Txt P w K mg base Tb) {f : Addr} {fd : FuncData} (Dd : Df K mg "_law_pick" s_law_pick ["_law_pot_here", "_law_some"] f fd) : FnOk P w K mg base CX0 2 f fd ["_law_pot_here", "_law_some"] (spD 2 prePick postPick) := by
  obtain ⟨f_draw, fd_draw, D_law_draw⟩ := T.d__law_draw
  refine okD Dd.F sc_law_pick rfl (fun cdv A outer s H E hr => ?_)
  have nd := sc_law_pick.nd
  refine ⟨_, (pss_one (ps_ret (pe_ix (r := rIx K) ix_seq (pv 1) (pe_call (ok_law_draw T D_law_draw) (hr.mono (by decide)) rfl D_law_draw.m D_law_draw.F.kp D_law_draw.b .nil pass0 (pa_cons (pv 0) (pa_cons (pe_lenK (K := K) rfl rfl T.n_len (pa_cons (pv 1) pa_nil)) pa_nil))) (by intro _ _; rfl)))), fun z ds hl hp => ?_⟩
  rcases hp with ⟨e, xs, rfl, he, h0, h1⟩ | ⟨x, rfl, h0, h1⟩
  · refine x_ret ?_
    refine e_op (e_var rfl ?_)
    refine e_call ?_
    refine a_cons (e_var rfl ?_)
    refine a_cons ?_
    refine e_cb (a_cons (e_var rfl (a_nil (o_len ⟨_, xs.length, rfl, by rcases he with rfl | rfl <;> rfl, ?_⟩))))
    refine a_nil ⟨rfl, ⟨_, rfl, by omega, by omega⟩, ?_⟩
    rintro d ⟨n, k, e2, rfl, k0, k1⟩
    cases e2
    obtain ⟨v, hv, hm⟩ := at_of k0 k1
    exact o_ixQ (.inl ⟨xs, k, v, he, rfl, hv, .inl ⟨e, xs, rfl, he, hm⟩⟩)
  · refine x_ret ?_
    refine e_op (e_var rfl ?_)
    refine e_call ?_
    refine a_cons (e_var rfl ?_)
    refine a_cons ?_
    refine e_cb (a_cons (e_var rfl (a_nil (o_len ⟨_, x.length, rfl, if_pos (szl (by omega)), ?_⟩))))
    refine a_nil ⟨rfl, ⟨_, rfl, by omega, by omega⟩, ?_⟩
    rintro d ⟨n, k, e2, rfl, k0, k1⟩
    cases e2
    obtain ⟨c, hv, hm⟩ := at_of (xs := x.cps.toList) k0 k1
    exact o_ixQ (.inr ⟨x, k, c, rfl, rfl, szl (by omega), hv, .inr ⟨x, c, rfl, hm, rfl⟩⟩)
abbrev N_law_pot : List Str := ["_law_script", "_law_at", "_law_cell"]
theorem sc_law_pot : FnScope N_law_pot ["_law_script", "_law_at"] (defScope s_law_pot) := ⟨rfl, rfl, rfl, by decide +kernel, rfl, by decide +kernel, by decide +kernel⟩
def spPot (K : PySem.W.Frag) : Sp := fun vs H Q _ => ∃ (a : Addr) (k : Int) (ns : List Int), vs = [.ref a, .int k] ∧ 0 ≤ k ∧ k < 4 ∧ SqL K H a (ns.map V.int) ∧ ∀ (p : Addr) (i j : Int), H p = none → 0 ≤ i → 0 ≤ j → j < 2147483648 → Q (.ref p) (upd H p (.lst [.int i, .int j]))
theorem ok_law_pot (T : Txt P w K mg base Tb) {f : Addr} {fd : FuncData} (Dd : Df K mg "_law_pot" s_law_pot ["_law_script", "_law_at"] f fd) : FnOk P w K mg base CX0 1 f fd ["_law_script", "_law_at"] (spPot K) := by
  refine Dd.F.ok sc_law_pot (fun vs H Q E q => by obtain ⟨a, k, ns, rfl, _⟩ := q; rfl) (fun cdv A outer s H vs Q E hr h => ?_)
  have nd := sc_law_pot.nd
  obtain ⟨a, k, ns, rfl, k0, k1, hS, q⟩ := h
  refine ⟨_, (pss_cons (ps_asg (pe_op op_add (pe_op op_mul pe_int (pv 1)) pe_int) (pg_name (i := 2) nd rfl (Or.inl rfl)))
    (pss_cons (ps_if (pt_cmpR op_lt (pv 1) (pe_lenK (K := K) rfl rfl T.n_len (pa_cons (pv 0) pa_nil)) (nomark _)) (pss_one (ps_asg (pe_callB call_abs rfl T.n_abs boot_abs (pa_cons (pe_ix (r := rIxL K) ix_list (pv 0) (pv 1) (by intro _ _; rfl)) pa_nil)) (pg_name (i := 2) nd rfl (Or.inl rfl)))) pss_nil)
    (pss_one (ps_ret (pe_lst (pa_cons (pe_callB (call_max2 rfl) rfl T.n_max boot_max (pa_cons pe_int (pa_cons (pe_op op_sub (pv 2) (pe_op op_pow pe_int pe_int)) pa_nil))) (pa_cons (pe_op op_add (pe_op op_mod (pe_op op_mul (pe_callTy call_int1 rfl T.n_int boot_int (pa_cons (pe_op op_add (pe_op op_mod (pe_callTy call_int1 rfl T.n_int boot_int (pa_cons (pv 2) pa_nil)) pe_int) pe_int) pa_nil)) (pe_op op_pow (pe_op op_add (pe_op op_mul pe_int (pv 1)) pe_int) pe_int)) pe_int) pe_int) pa_nil))))))), ?_⟩
  have e18 : (10 : Int) ^ (18 : Int).toNat = 1000000000000000000 := by decide +kernel
  have e3 : (2 * k + 5) ^ (3 : Int).toNat = (2 * k + 5) * (2 * k + 5) * (2 * k + 5) := by
    show (2 * k + 5) ^ 3 = _
    rw [Int.pow_succ, Int.pow_succ, Int.pow_succ, Int.pow_zero, Int.one_mul]
  refine ⟨_, rfl, _, _, rfl, rfl, .inl ⟨by decide, by decide⟩, _, _, rfl, rfl, ?_⟩
  refine ⟨_, rfl, _, rfl, _, _, rfl, .inl ⟨_, hS, rfl⟩, _, _, rfl, rfl, _, rfl, iteD (fun hk => ?_) (fun hk => ?_)⟩
  · rw [List.length_map] at hk
    have hk' : k.toNat < ns.length := by omega
    have hat : atI (ns.map V.int) k = some (V.int ns[k.toNat]) := by
      unfold atI ixN
      rw [if_pos k0, List.length_map, if_pos hk, Option.bind_some, List.getElem?_map, List.getElem?_eq_getElem hk']
      rfl
    refine ⟨_, rfl, _, rfl, a, _, _, _, rfl, rfl, hS, hat, _, rfl, ?_⟩
    refine ⟨_, rfl, _, _, rfl, rfl, ⟨by decide, by decide, by decide⟩, _, _, rfl, rfl, _, _, rfl, ?_⟩
    refine ⟨_, rfl, .inl ⟨_, rfl, _, _, rfl, rfl, (by show (0 : Int) < _; decide), _, _, rfl, rfl, .inl ⟨_, rfl, ?_⟩⟩⟩
    refine ⟨_, rfl, _, _, rfl, rfl, .inl ⟨by decide, by decide⟩, _, _, rfl, rfl, _, _, rfl, rfl, ⟨by decide, by decide, by omega⟩, _, _, rfl, rfl, .inl ⟨by omega, by omega⟩, _, _, rfl, rfl, (by show (0 : Int) < _; decide), _, _, rfl, rfl, ?_⟩
    exact ⟨sz rfl, fun p hp => q p _ _ hp (by split <;> omega) (by omega) (by omega)⟩
  · refine ⟨_, rfl, _, _, rfl, rfl, ⟨by decide, by decide, by decide⟩, _, _, rfl, rfl, _, _, rfl, ?_⟩
    refine ⟨_, rfl, .inl ⟨_, rfl, _, _, rfl, rfl, (by show (0 : Int) < _; decide), _, _, rfl, rfl, .inl ⟨_, rfl, ?_⟩⟩⟩
    refine ⟨_, rfl, _, _, rfl, rfl, .inl ⟨by decide, by decide⟩, _, _, rfl, rfl, _, _, rfl, rfl, ⟨by decide, by decide, by omega⟩, _, _, rfl, rfl, .inl ⟨by omega, by omega⟩, _, _, rfl, rfl, (by show (0 : Int) < _; decide), _, _, rfl, rfl, ?_⟩
    exact ⟨sz rfl, fun p hp => q p _ _ hp (by split <;> omega) (by omega) (by omega)⟩
end
end K21

set_option Elab.async false
set_option linter.all false
set_option maxRecDepth 100000
set_option pp.maxSteps 120
set_option maxHeartbeats 4000000
/-! K21c: letters, words, lists of words: the program's defs. -/
namespace K21
open PySem PySem.Spec PyProof.Rows L2 PD
def preL (ds : List D) : Prop := ∃ d, ds = [d] ∧ Lf d
def preLw (ds : List D) : Prop := ∃ d, ds = [d] ∧ Lw d
def postL (ds : List D) (d : D) : Prop := d = .bl (isL (ds.headD .non))
def postW (ds : List D) (d : D) : Prop := d = .bl (isW (ds.headD .non))
def preTy (K : PySem.W.Frag) (ds : List D) : Prop := ∃ d ws, ds = [d] ∧ SqK K d ws
def FewW (ws : List (List Str)) : Prop := ∀ us : List (List Str), us.Nodup → (∀ k ∈ us, k ∈ ws) → us.length < 64
def preWs (ds : List D) : Prop := ∃ ws : List (List Str), (∀ k ∈ ws, gw k) ∧ FewW ws ∧ (ds = [.lst (ws.map wd)] ∨ ds = [.tup (ws.map wd)])
def postOrd (ds es : List D) : Prop := ∀ ws : List (List Str), (ds = [.lst (ws.map wd)] ∨ ds = [.tup (ws.map wd)]) → ∃ os : List (List Str), IsOrd ws os ∧ es = os.map wd
def pre1 (ds : List D) : Prop := ∃ k, gw k ∧ ds = [wd k]
def postBeg (ds es : List D) : Prop := ∀ k, ds = [wd k] → es = (inits k).map wd
def preWd (K : PySem.W.Frag) (ds : List D) : Prop := ∃ (d : D) (ws : List (List Str)), (∀ k ∈ ws, gw k) ∧ ds = [d] ∧ SqK K d ws
def preClo (K : PySem.W.Frag) (ds : List D) : Prop := ∃ (d : D) (ws : List (List Str)), (∀ k ∈ ws, gw k) ∧ ws.length ≤ 200 ∧ FewW (clo ws) ∧ ds = [d] ∧ SqK K d ws
def postClo (K : PySem.W.Frag) (ds : List D) (r : D) : Prop := ∀ (d : D) (ws : List (List Str)), ds = [d] → SqK K d ws → ∃ os : List (List Str), IsOrd (clo ws) os ∧ r = .tup (os.map wd)
def frD (K : PySem.W.Frag) (os : List (List Str)) : D := .obj (He.ga K "Front") [("own_words", .tup (os.map wd))]
theorem inits_len {k : List Str} (h : gw k) : (inits k).length ≤ 4 := by
  unfold inits
  rw [List.length_map, List.length_range]
  have := h.1
  omega
theorem fl_len : ∀ {ws : List (List Str)}, (∀ k ∈ ws, gw k) → (ws.flatMap inits).length ≤ 4 * ws.length
  | [], _ => by simp
  | k :: ws, h => by
    rw [List.flatMap_cons, List.length_append, List.length_cons]
    have h1 := inits_len (h k (List.mem_cons_self ..))
    have h2 := fl_len (ws := ws) fun k hk => h k (List.mem_cons_of_mem _ hk)
    omega
def SqW (d : D) (ws : List (List Str)) : Prop := d = .lst (ws.map wd) ∨ d = .tup (ws.map wd)
theorem SqW.inj {d : D} {ws us : List (List Str)} (h : SqW d ws) (g : SqW d us) : ws = us := by
  rcases h with rfl | rfl <;> rcases g with g | g
  · exact wds_inj (D.lst.inj g)
  · cases g
  · cases g
  · exact wds_inj (D.tup.inj g)
theorem fr_inj {K : PySem.W.Frag} {os us : List (List Str)} (h : frD K os = frD K us) : os = us := by
  unfold frD at h
  obtain ⟨_, h⟩ := D.obj.inj h
  obtain ⟨h, _⟩ := List.cons.inj h
  exact wds_inj (D.tup.inj (Prod.mk.inj h).2)
def okF (os : List (List Str)) : Prop := (∀ k ∈ os, gw k) ∧ os.length ≤ 200
def preFi (K : PySem.W.Frag) (ds : List D) : Prop := ∃ (d : D) (ws : List (List Str)), ds = [d] ∧ SqK K d ws ∧ okF ws ∧ FewW (clo ws)
def postFi (K : PySem.W.Frag) (ds : List D) (fs : List (Str × D)) : Prop := ∀ (d : D) (ws : List (List Str)), ds = [d] → SqK K d ws → ∃ os, IsOrd (clo ws) os ∧ fs = [(("own_words" : Str), D.tup (os.map wd))]
def preFr (K : PySem.W.Frag) (ds : List D) : Prop := ∃ os, ds = [frD K os] ∧ okF os
def preFq (K : PySem.W.Frag) (ds : List D) : Prop := ∃ os us, ds = [frD K os, frD K us] ∧ okF os ∧ okF us
def noX (_ : List D) (_ : Addr) (_ : List (Str × D)) : Prop := False
def postQ (K : PySem.W.Frag) (ds : List D) (d : D) : Prop := ∀ os us, ds = [frD K os, frD K us] → d = .bl (decide (os = us))
theorem okF_ws {os : List (List Str)} (h : okF os) : okWs os := fun k hk => gw_ok (h.1 k hk)
section
variable {P : Program} {w : World} {K : PySem.W.Frag} {mg : Str → Option Value} {base : Heap} {Tb : List (Addr × Str)}
abbrev N_is_list : List Str := ["value"]
theorem sc_is_list : FnScope N_is_list ["value"] (defScope s_is_list) := ⟨rfl, rfl, rfl, by decide +kernel, rfl, by decide +kernel, by decide +kernel⟩
theorem ok_is_list (T : Txt P w K mg base Tb) {f : Addr} {fd : FuncData} (Dd : Df K mg "is_list" s_is_list ["value"] f fd) : FnOk P w K mg base CX0 1 f fd ["value"] (spD 1 (preTy K) fun _ d => d = .bl true) := by
  refine okD Dd.F sc_is_list rfl (fun cdv A outer s H E hr => ?_)
  have nd := sc_is_list.nd
  refine ⟨_, (pss_one (ps_ret (pe_callB (r := rIsiT K) call_isiT rfl T.n_isinstance boot_isinstance (pa_cons (pv 0) (pa_cons (pe_tup (pa_cons (pe_bltn (v := .ty "list") rfl T.n_list PyProof.Rows.boot_list rfl) (pa_cons (pe_bltn (v := .ty "tuple") rfl T.n_tuple PyProof.Rows.boot_tuple rfl) pa_nil))) pa_nil))))), fun z ds hl hp => ?_⟩
  obtain ⟨d, ws, rfl, hd⟩ := hp
  refine x_ret (e_cb ?_)
  refine a_cons (e_var rfl (a_cons (e_tup (a_cons (e_raw (a_cons (e_raw (a_nil ⟨sz rfl, ?_⟩)))))) ))
  exact a_nil (o_isLTW hd rfl)
abbrev N_is_name : List Str := ["value", "sign"]
theorem sc_is_name : FnScope N_is_name ["value"] (defScope s_is_name) := ⟨rfl, rfl, rfl, by decide +kernel, rfl, by decide +kernel, by decide +kernel⟩
theorem ok_is_name (T : Txt P w K mg base Tb) {f : Addr} {fd : FuncData} (Dd : Df K mg "is_name" s_is_name ["value"] f fd) : FnOk P w K mg base CX0 1 f fd ["value"] (spD 1 preL postL) := by
  refine okD Dd.F sc_is_name rfl (fun cdv A outer s H E hr => ?_)
  have nd := sc_is_name.nd
  refine ⟨_, (pss_one (ps_ret (pe_and (pe_callB (r := rIsi K) call_isi rfl T.n_isinstance boot_isinstance (pa_cons (pv 0) (pa_cons (pe_bltn (v := .ty "str") rfl T.n_str PyProof.Rows.boot_str rfl) pa_nil))) (pe_and (pe_chain op_le op_le pe_int (pe_lenK (K := K) rfl rfl T.n_len (pa_cons (pv 0) pa_nil)) (pe_gint T.MOST_SIGNS rfl)) (pe_one (pe_callB (cr_all rfl) rfl T.n_all boot_all (pa_cons (pe_lc (own := [("sign", 1)]) (g := gName 1) (tt := tYes) rfl nd (pi_str (pv 0)) (blkOk_by (N := N_is_name) (sc := defScope s_is_name) (by decide +kernel)) (fun _ _ _ _ _ => pg_name (i := 1) nd rfl (Or.inl rfl)) (fun _ _ _ _ _ => pts_nil) (fun _ _ _ _ _ => (pe_cmpR op_in_sign (pv 1) (pe_gstr T.SIGNS rfl) (by with_unfolding_all rfl)))) pa_nil))))))), fun z ds hl hp => ?_⟩
  obtain ⟨d, rfl, hd⟩ := hp
  refine x_ret ?_
  refine e_andV ?_
  refine e_cb (a_cons (e_var rfl (a_cons (e_raw (a_nil (o_isStr (lf_ty hd) ⟨_, rfl, ?_⟩))))))
  refine iteB (fun hs => ?_) (fun hs => congrArg D.bl (isL_no hs).symm)
  obtain ⟨x, rfl⟩ := isStr_of hs
  have hx : x.length ≤ 1000 := hd
  have hx2 : x.cps.size ≤ 1000 := hx
  refine e_andV ?_
  refine e_chain (e_int ?_)
  refine e_cb (a_cons (e_var rfl (a_nil (o_lenK ⟨_, x.length, rfl, if_pos (szl hx), ?_⟩))))
  refine o_I0 ⟨_, _, rfl, rfl, _, rfl, iteB (fun h1 => ?_) (fun h1 => ?_)⟩
  · refine e_int (o_I0 ⟨_, _, rfl, rfl, _, rfl, iteB (fun h2 => ?_) (fun h2 => ?_)⟩)
    · refine e_cb ?_
      refine a_cons (e_lcG rfl (i_str (e_var rfl ⟨x, rfl, by omega, fun i => .bl (decide (x.cps.getD i 0 ∈ alph.cps.toList)), ?_, ?_⟩)))
      · rintro i hi _ rfl
        refine e_op (e_var (at_slot rfl) ?_)
        refine e_str (o_sign ⟨_, _, rfl, rfl, rfl⟩)
      · refine a_nil (o_all ⟨(List.range x.cps.size).map fun i => decide (x.cps.getD i 0 ∈ alph.cps.toList), by rw [List.map_map]; rfl, ?_⟩)
        show D.bl _ = D.bl (sgn x)
        unfold sgn
        rw [show decide ((1 : Int) ≤ ((x.length : Nat) : Int)) = true from h1, show decide (((x.length : Nat) : Int) ≤ 8) = true from h2]
        rfl
    · show D.bl false = D.bl (sgn x)
      unfold sgn
      rw [show decide (((x.length : Nat) : Int) ≤ 8) = false from h2, Bool.false_and, Bool.and_false]
  · refine ⟨false, rfl, iteNB rfl ?_⟩
    show D.bl false = D.bl (sgn x)
    unfold sgn
    rw [show decide ((1 : Int) ≤ ((x.length : Nat) : Int)) = false from h1, Bool.false_and]
abbrev N_is_letter : List Str := ["value"]
theorem sc_is_letter : FnScope N_is_letter ["value"] (defScope s_is_letter) := ⟨rfl, rfl, rfl, by decide +kernel, rfl, by decide +kernel, by decide +kernel⟩
theorem ok_is_letter (T : Txt P w K mg base Tb) {f : Addr} {fd : FuncData} (Dd : Df K mg "is_letter" s_is_letter ["value"] f fd) : FnOk P w K mg base CX0 2 f fd ["value"] (spD 1 preL postL) := by
  obtain ⟨f_is_name, fd_is_name, D_is_name⟩ := T.d_is_name
  refine okD Dd.F sc_is_letter rfl (fun cdv A outer s H E hr => ?_)
  have nd := sc_is_letter.nd
  refine ⟨_, (pss_one (ps_ret (pe_call (ok_is_name T D_is_name) (hr.mono (by decide)) rfl D_is_name.m D_is_name.F.kp D_is_name.b .nil pass0 (pa_cons (pv 0) pa_nil)))), fun z ds hl hp => ?_⟩
  obtain ⟨d, rfl, hd⟩ := hp
  refine x_ret (e_call (a_cons (e_var rfl (a_nil ⟨rfl, ⟨d, rfl, hd⟩, ?_⟩))))
  exact fun d' h => h
abbrev N_is_word : List Str := ["value", "letter"]
theorem sc_is_word : FnScope N_is_word ["value"] (defScope s_is_word) := ⟨rfl, rfl, rfl, by decide +kernel, rfl, by decide +kernel, by decide +kernel⟩
theorem ok_is_word (T : Txt P w K mg base Tb) {f : Addr} {fd : FuncData} (Dd : Df K mg "is_word" s_is_word ["value"] f fd) : FnOk P w K mg base CX0 3 f fd ["value"] (spD 1 preLw postW) := by
  obtain ⟨f_is_letter, fd_is_letter, D_is_letter⟩ := T.d_is_letter
  refine okD Dd.F sc_is_word rfl (fun cdv A outer s H E hr => ?_)
  have nd := sc_is_word.nd
  refine ⟨_, (pss_one (ps_ret (pe_and (pe_callB (r := rIsi K) call_isi rfl T.n_isinstance boot_isinstance (pa_cons (pv 0) (pa_cons (pe_bltn (v := .ty "tuple") rfl T.n_tuple PyProof.Rows.boot_tuple rfl) pa_nil))) (pe_and (pe_cmpR op_le (pe_lenK (K := K) rfl rfl T.n_len (pa_cons (pv 0) pa_nil)) (pe_gint T.LONGEST_WORD rfl) (nomark _)) (pe_one (pe_callB (cr_all rfl) rfl T.n_all boot_all (pa_cons (pe_lc (own := [("letter", 1)]) (g := gName 1) (tt := tYes) rfl nd (pi_tup (pv 0)) (blkOk_by (N := N_is_word) (sc := defScope s_is_word) (by decide +kernel)) (fun _ _ _ _ _ => pg_name (i := 1) nd rfl (Or.inl rfl)) (fun _ _ _ _ _ => pts_nil) (fun _ _ _ _ _ => (pe_call (ok_is_letter T D_is_letter) (hr.mono (by decide)) rfl D_is_letter.m D_is_letter.F.kp D_is_letter.b .nil pass0 (pa_cons (pv 1) pa_nil)))) pa_nil))))))), fun z ds hl hp => ?_⟩
  obtain ⟨d, rfl, hd⟩ := hp
  refine x_ret ?_
  refine e_andV ?_
  refine e_cb (a_cons (e_var rfl (a_cons (e_raw (a_nil (o_isTup (lw_ty hd) ⟨_, rfl, ?_⟩))))))
  refine iteB (fun hs => ?_) (fun hs => congrArg D.bl (isW_no hs).symm)
  obtain ⟨xs, rfl⟩ := isTup_of hs
  refine e_andV ?_
  refine e_op (e_cb (a_cons (e_var rfl (a_nil (o_lenK ⟨_, xs.length, rfl, rfl, ?_⟩)))))
  refine e_int (o_I0 ⟨_, _, rfl, rfl, _, rfl, iteB (fun h2 => ?_) (fun h2 => ?_)⟩)
  · have h3 : ((xs.length : Nat) : Int) ≤ 3 := of_decide_eq_true h2
    refine e_cb ?_
    refine a_cons (e_lcG rfl (i_tup (e_var rfl ⟨xs, rfl, by omega, fun i => .bl (isL (xs.getD i .non)), ?_, ?_⟩)))
    · rintro i hi _ rfl
      refine e_call (a_cons (e_var (at_slot rfl) (a_nil ⟨rfl, ⟨_, rfl, ?_⟩, ?_⟩)))
      · have hg : xs.getD i .non = xs[i] := by rw [List.getD_eq_getElem?_getD, List.getElem?_eq_getElem hi]; rfl
        show Lf (xs.getD i .non)
        rw [hg]
        exact hd _ (List.getElem_mem hi)
      · exact fun d h => h
    · refine a_nil (o_all ⟨(List.range xs.length).map fun i => isL (xs.getD i .non), by rw [List.map_map]; rfl, ?_⟩)
      show D.bl _ = D.bl (decide (((xs.length : Nat) : Int) ≤ 3) && _)
      rw [show decide (((xs.length : Nat) : Int) ≤ 3) = true from h2]
      rfl
  · show D.bl false = D.bl (decide (((xs.length : Nat) : Int) ≤ 3) && _)
    rw [show decide (((xs.length : Nat) : Int) ≤ 3) = false from h2]
    rfl
abbrev N_want_words : List Str := ["value", "position", "word"]
theorem sc_want_words : FnScope N_want_words ["value"] (defScope s_want_words) := ⟨rfl, rfl, rfl, by decide +kernel, rfl, by decide +kernel, by decide +kernel⟩
theorem ok_want_words (T : Txt P w K mg base Tb) {f : Addr} {fd : FuncData} (Dd : Df K mg "want_words" s_want_words ["value"] f fd) : FnOk P w K mg base CX0 4 f fd ["value"] (spD 1 (preWd K) fun _ _ => True) := by
  obtain ⟨f_is_list, fd_is_list, D_is_list⟩ := T.d_is_list
  obtain ⟨f_is_word, fd_is_word, D_is_word⟩ := T.d_is_word
  refine okD Dd.F sc_want_words rfl (fun cdv A outer s H E hr => ?_)
  have nd := sc_want_words.nd
  refine ⟨_, (pss_cons (ps_if (pt_not (pt_val (pe_call (ok_is_list T D_is_list) (hr.mono (by decide)) rfl D_is_list.m D_is_list.F.kp D_is_list.b .nil pass0 (pa_cons (pv 0) pa_nil)))) (pss_one ps_never) pss_nil)
    (pss_one (ps_for PassesOwn.never rfl (pi_enumLT rfl T.n_enumerate (pa_cons (pv 0) pa_nil)) (pg_tup rfl (pgs_cons (pg_name (i := 1) nd rfl (Or.inl rfl)) (pgs_cons (pg_name (i := 2) nd rfl (Or.inl rfl)) pgs_nil))) (pss_one (ps_if (pt_not (pt_val (pe_call (ok_is_word T D_is_word) (hr.mono (by decide)) rfl D_is_word.m D_is_word.F.kp D_is_word.b .nil pass0 (pa_cons (pv 2) pa_nil)))) (pss_one ps_never) pss_nil))))), fun z ds hl hp => ?_⟩
  obtain ⟨d, ws, hw, rfl, hd⟩ := hp
  refine x_seq (x_if (t_not (t_test (e_call (a_cons (e_var rfl (a_nil ⟨rfl, ⟨_, _, rfl, hd⟩, ?_⟩)))))))
  rintro _ rfl
  refine ⟨_, rfl, iteNB rfl (x_next ?_)⟩
  refine x_for (i_enumW (a_cons (e_var rfl (a_nil ⟨d, ws, rfl, hd, fun i ρ => ∃ a b, ρ = [.va d, a, b], ⟨_, _, rfl⟩, ?_, ?_⟩))))
  · rintro i _ hi ⟨a, b, rfl⟩
    refine g_eq (d' := .tup [.int (i : Nat), wd ws[i]]) (by
      show D.tup [.int (i : Nat), (ws.map wd).getD i .non] = _
      rw [List.getD_eq_getElem?_getD, List.getElem?_map, List.getElem?_eq_getElem hi]; rfl) ?_
    refine g_tup ⟨_, rfl, rfl, gs_cons (g_name (gs_cons (g_name (gs_nil ?_))))⟩
    have hk := hw _ (List.getElem_mem hi)
    refine x_if ?_
    refine t_not (t_test (e_call (a_cons (e_var rfl (a_nil ⟨rfl, ⟨_, rfl, gw_Lw hk⟩, ?_⟩)))))
    rintro _ rfl
    exact ⟨_, rfl, iteNB (by rw [show isW ([wd ws[i]].headD .non) = true from gw_isW hk]; rfl) (x_next ⟨_, _, rfl⟩)⟩
  · rintro _ ⟨a, b, rfl⟩
    exact trivial
abbrev N_all_beginnings : List Str := ["word", "many"]
theorem sc_all_beginnings : FnScope N_all_beginnings ["word"] (defScope s_all_beginnings) := ⟨rfl, rfl, rfl, by decide +kernel, rfl, by decide +kernel, by decide +kernel⟩
theorem ok_all_beginnings (T : Txt P w K mg base Tb) {f : Addr} {fd : FuncData} (Dd : Df K mg "all_beginnings" s_all_beginnings ["word"] f fd) : FnOk P w K mg base CX0 1 f fd ["word"] (spN 1 pre1 postBeg) := by
  refine okN Dd.F sc_all_beginnings rfl (fun cdv A outer s H E hr => ?_)
  have nd := sc_all_beginnings.nd
  refine ⟨_, (pss_one (ps_ret (pe_lc (own := [("many", 1)]) (g := gName 1) (tt := tYes) rfl nd (pi_range1 rfl T.n_range (pa_cons (pe_op op_add (pe_lenK (K := K) rfl rfl T.n_len (pa_cons (pv 0) pa_nil)) pe_int) pa_nil)) (blkOk_by (N := N_all_beginnings) (sc := defScope s_all_beginnings) (by decide +kernel)) (fun _ _ _ _ _ => pg_name (i := 1) nd rfl (Or.inl rfl)) (fun _ _ _ _ _ => pts_nil) (fun _ _ _ _ _ => (pe_slice (r := rSlA K) sl_tupA (pv 0) po_none (po_some (pv 1))))))), fun z ds hl hp => ?_⟩
  obtain ⟨k, hk, rfl⟩ := hp
  have h3 := hk.1
  refine xn_ret (n_lcG rfl (i_rng1 ?_))
  refine a_cons ?_
  refine e_op (e_cb (a_cons (e_var rfl (a_nil (o_lenK ⟨_, k.length, rfl, congrArg some (wd_len k), ?_⟩)))))
  refine e_int (o_I0 ⟨_, _, rfl, rfl, a_nil ⟨_, rfl, by omega, by omega, by omega, fun i => wd (k.take i), ?_, ?_⟩⟩)
  · rintro i hi _ rfl
    refine e_sl (e_var rfl (o_none (o_some (e_var (at_slot rfl) ⟨_, rfl, o_slT ⟨_, rfl, ?_⟩⟩))))
    rw [cut_take, ← List.map_take]
    rfl
  · intro k' e
    have e := wd_inj (List.cons.inj e).1
    subst e
    rw [show (((k.length : Nat) : Int) + 1).toNat = k.length + 1 by omega]
    unfold inits
    rw [List.map_map]
    rfl
abbrev N_ordered : List Str := ["words"]
theorem sc_ordered : FnScope N_ordered ["words"] (defScope s_ordered) := ⟨rfl, rfl, rfl, by decide +kernel, rfl, by decide +kernel, by decide +kernel⟩
theorem ok_ordered (T : Txt P w K mg base Tb) {f : Addr} {fd : FuncData} (Dd : Df K mg "ordered" s_ordered ["words"] f fd) : FnOk P w K mg base CX0 1 f fd ["words"] (spN 1 preWs postOrd) := by
  refine okN Dd.F sc_ordered rfl (fun cdv A outer s H E hr => ?_)
  have nd := sc_ordered.nd
  refine ⟨_, (pss_one (ps_ret (WS.pe_sortLen hr.units rfl T.n_sorted rfl T.n_len (WS.pe_sortSet rfl hr.units rfl T.n_sorted rfl T.n_set (pv 0))))), fun z ds hl hp => ?_⟩
  obtain ⟨ws, hw, hn, e⟩ := hp
  have e' : SqW (ds.headD .non) ws := e.imp (fun h => by rw [h]; rfl) fun h => by rw [h]; rfl
  obtain ⟨d, rfl⟩ : ∃ d, ds = [d] := e.elim (fun h => ⟨_, h⟩) fun h => ⟨_, h⟩
  have e' : SqW d ws := e'
  refine xn_ret (n_sortLen (e_sortSet (e_var rfl ⟨ws, e', hn, fun us und hm => ⟨lexW us, rfl, ?_, ?_, ?_⟩⟩)))
  · intro k hk
    have : k ∈ us := (List.mergeSort_perm us _).mem_iff.mp hk
    have := (hw k ((hm k).mp this)).1
    omega
  · have h1 : (lexW us).length = us.length := (List.mergeSort_perm us _).length_eq
    have := hn us und fun k hk => (hm k).mp hk
    omega
  · intro ws' e
    have e2 : SqW d ws' := e.imp (fun h => (List.cons.inj h).1) fun h => (List.cons.inj h).1
    have e := e'.inj e2
    subst e
    exact ⟨lenW (lexW us), ordW und hm, rfl⟩
abbrev N_closed : List Str := ["words", "found", "word"]
theorem sc_closed : FnScope N_closed ["words"] (defScope s_closed) := ⟨rfl, rfl, rfl, by decide +kernel, rfl, by decide +kernel, by decide +kernel⟩
theorem ok_closed (T : Txt P w K mg base Tb) {f : Addr} {fd : FuncData} (Dd : Df K mg "closed" s_closed ["words"] f fd) : FnOk P w K mg base CX0 2 f fd ["words"] (spD 1 (preClo K) (postClo K)) := by
  obtain ⟨f_all_beginnings, fd_all_beginnings, D_all_beginnings⟩ := T.d_all_beginnings
  obtain ⟨f_ordered, fd_ordered, D_ordered⟩ := T.d_ordered
  refine okD Dd.F sc_closed rfl (fun cdv A outer s H E hr => ?_)
  have nd := sc_closed.nd
  refine ⟨_, (pss_cons (ps_asg (pe_lst (pa_cons (pe_tup pa_nil) pa_nil)) (pg_name (i := 1) nd rfl (Or.inl rfl)))
    (pss_cons (ps_for PassesOwn.never rfl (pi_LT (pv 0)) (pg_name (i := 2) nd rfl (Or.inl rfl)) (pss_one (ps_expr (pe_bm PySem.F.plainAttrs_list PySem.F.slot_list_extend PySem.F.type_list_extend mt_extend (pv 1) (pa_cons (pe_call (ok_all_beginnings T D_all_beginnings) (hr.mono (by decide)) rfl D_all_beginnings.m D_all_beginnings.F.kp D_all_beginnings.b .nil pass0 (pa_cons (pv 2) pa_nil)) pa_nil)))))
    (pss_one (ps_ret (pe_tupleOf rfl T.n_tuple (pe_call (ok_ordered T D_ordered) (hr.mono (by decide)) rfl D_ordered.m D_ordered.F.kp D_ordered.b .nil pass0 (pa_cons (pv 1) pa_nil))))))), fun z ds hl hp => ?_⟩
  obtain ⟨d, ws, hw, hn, hf, rfl, hd⟩ := hp
  refine x_seq (x_own (Nat.le_of_ble_eq_true rfl) (a_cons (e_tup (a_nil ⟨sz rfl, a_nil ⟨sz rfl, ?_⟩⟩))))
  refine x_seq (x_for (i_LTW (e_var rfl ⟨ws, hd, fun i ρ => ∃ c, ρ = [.va d, .ow (([] :: (ws.take i).flatMap inits).map wd), c], ⟨_, rfl⟩, ?_, ?_⟩)))
  · rintro i _ hi ⟨c, rfl⟩
    refine g_eq (d' := wd ws[i]) (getWs hi) (g_name ?_)
    have hk := hw _ (List.getElem_mem hi)
    have et : ws.take (i + 1) = ws.take i ++ [ws[i]] := List.take_succ_eq_append_getElem hi
    have l1 := fl_len (ws := ws.take i) fun k hk => hw k (List.mem_of_mem_take hk)
    have l2 : (ws.take i).length ≤ 200 := by rw [List.length_take]; omega
    have l3 := inits_len hk
    refine x_extend rfl (e_ofNew (n_call (a_cons (e_var rfl (a_nil ⟨rfl, ⟨_, hk, rfl⟩, fun es h => h _ rfl⟩)))) ?_)
    rintro _ rfl
    refine ⟨_, rfl, ?_, .va (wd ws[i]), ?_⟩
    · rw [List.length_map, List.length_map, List.length_cons]
      exact szl (by omega)
    · rw [et, List.flatMap_append, ← List.map_append]
      simp
  · rintro _ ⟨c, rfl⟩
    rw [List.take_length]
    refine x_ret (e_tupOf (e_ofNew (n_call (a_cons (e_var rfl (a_nil ⟨rfl, ⟨clo ws, clo_gw hw, hf, .inl rfl⟩, fun es h => h _ (.inl rfl)⟩)))) ?_))
    rintro _ ⟨os, io, rfl⟩
    refine ⟨_, .inl rfl, fun d' ws' e g => ?_⟩
    have e := (List.cons.inj e).1
    subst e
    have e := hd.inj g
    subst e
    exact ⟨os, io, rfl⟩
theorem fl (T : Txt P w K mg base Tb) {z : Zp} {i : Nat} {os : List (List Str)} {ρ : List (Option D)} {PP : D → Prop} (h : ρ[i]? = some (some (frD K os))) (q : PP (.tup (os.map wd))) : E1 z (tFld K (tVar i) "own_words") ρ PP := e_fld (e_var h ⟨_, _, _, rfl, T.o_Front.o.cl, T.o_Front.nf _ (by simp), rfl, q⟩)
abbrev N_Front___init__ : List Str := ["self", "words"]
theorem sc_Front___init__ : FnScope N_Front___init__ ["self", "words"] (defScope s_Front___init__) := ⟨rfl, rfl, rfl, by decide +kernel, rfl, by decide +kernel, by decide +kernel⟩
theorem ok_Front___init__ (T : Txt P w K mg base Tb) {f : Addr} {fd : FuncData} (Dd : MfE K (He.ga K "Front") "__init__" "Front.__init__" s_Front___init__ ["self", "words"] f fd) : FnOk P w K mg base (L2.CX P w) 6 f fd ["self", "words"] (spInit (He.ga K "Front") 1 (preFi K) (postFi K) noX) := by
  obtain ⟨f_want_words, fd_want_words, D_want_words⟩ := T.d_want_words
  obtain ⟨f_closed, fd_closed, D_closed⟩ := T.d_closed
  refine okIE (N := ["words"]) Dd.F sc_Front___init__ rfl (fun cdv A outer s H E hr => ?_)
  have nd := sc_Front___init__.nd
  refine ⟨_, (pss_cons (ps_expr (pe_call (ok_want_words T D_want_words) (hr.mono (by decide)) rfl D_want_words.m D_want_words.F.kp D_want_words.b .nil pass0 (pa_cons (pv 1) pa_nil)))
    (pss_one (ps_fld (pv 0) (pe_call (ok_closed T D_closed) (hr.mono (by decide)) rfl D_closed.m D_closed.F.kp D_closed.b .nil pass0 (pa_cons (pv 1) pa_nil)) rfl))), fun z a ds hl hp => ?_⟩
  obtain ⟨d, ws, rfl, hd, ⟨hw, hl2⟩, hf⟩ := hp
  refine x_seq (x_drop (e_call (a_cons (e_var rfl (a_nil ⟨rfl, ⟨d, ws, hw, rfl, hd⟩, fun _ _ => ?_⟩)))))
  refine x_fld (i := 0) (a := a) (C := He.ga K "Front") (fs := []) rfl T.o_Front.o.cl (T.o_Front.nf _ (by simp)) (by simp) rfl (e_call (a_cons (e_var rfl (a_nil ⟨rfl, ⟨d, ws, hw, hl2, hf, rfl, hd⟩, fun r h => ?_⟩))))
  obtain ⟨os, io, rfl⟩ := h d ws rfl hd
  refine ⟨_, rfl, fun d' ws' e g => ?_⟩
  have e := (List.cons.inj e).1
  subst e
  have e := hd.inj g
  subst e
  exact ⟨os, io, rfl⟩
abbrev N_Front_words : List Str := ["self"]
theorem sc_Front_words : FnScope N_Front_words ["self"] (defScope s_Front_words) := ⟨rfl, rfl, rfl, by decide +kernel, rfl, by decide +kernel, by decide +kernel⟩
theorem ok_Front_words (T : Txt P w K mg base Tb) {f : Addr} {fd : FuncData} (Dd : Mf K (He.ga K "Front") "words" "Front.words" s_Front_words ["self"] f fd) : FnOk P w K mg base CX0 1 f fd ["self"] (spD 1 (preFr K) fun ds d => ∀ os, ds = [frD K os] → d = .lst (os.map wd)) := by

  refine okD Dd.F sc_Front_words rfl (fun cdv A outer s H E hr => ?_)
  have nd := sc_Front_words.nd
  refine ⟨_, (pss_one (ps_ret (pe_callTy call_list_of rfl T.n_list PyProof.Rows.boot_list (pa_cons (pe_fld (pv 0) rfl) pa_nil)))), fun z ds hl hp => ?_⟩
  obtain ⟨os, rfl, ho⟩ := hp
  refine x_ret (e_cb (a_cons (fl T rfl (a_nil (o_listOf ⟨_, .inr rfl, fun us e => ?_⟩)))))
  have e := fr_inj (List.cons.inj e).1
  rw [e]
abbrev N_Front___eq__ : List Str := ["self", "other"]
theorem sc_Front___eq__ : FnScope N_Front___eq__ ["self", "other"] (defScope s_Front___eq__) := ⟨rfl, rfl, rfl, by decide +kernel, rfl, by decide +kernel, by decide +kernel⟩
theorem ok_Front___eq__ (T : Txt P w K mg base Tb) {f : Addr} {fd : FuncData} (Dd : Mf K (He.ga K "Front") "__eq__" "Front.__eq__" s_Front___eq__ ["self", "other"] f fd) : FnOk P w K mg base CX0 1 f fd ["self", "other"] (spD 2 (preFq K) (postQ K)) := by

  refine okD Dd.F sc_Front___eq__ rfl (fun cdv A outer s H E hr => ?_)
  have nd := sc_Front___eq__.nd
  refine ⟨_, (pss_one (ps_ret (pe_and (pe_callB (r := rIsi K) call_isi rfl T.n_isinstance boot_isinstance (pa_cons (pv 1) (pa_cons (pe_glob (v := .ref (He.ga K "Front")) rfl T.g_Front rfl) pa_nil))) (pe_one (pe_cmpR (r := rEqD K) (op_eqD hr.units) (pe_fld (pv 0) rfl) (pe_fld (pv 1) rfl) (nomark _)))))), fun z ds hl hp => ?_⟩
  obtain ⟨os, us, rfl, ho, hu⟩ := hp
  refine x_ret (e_andV (e_cb (a_cons (e_var rfl (a_cons (e_raw (a_nil (o_isOwn (tyIs_obj T.o_Front.o) T.o_Front.me ⟨_, rfl, iteYB rfl ?_⟩))))))))
  refine e_op (fl T rfl (fl T rfl (o_eqWt (okF_ws ho) (okF_ws hu) fun os' us' e => ?_)))
  obtain ⟨e1, e2⟩ := List.cons.inj e
  have e1 := fr_inj e1
  have e2 := fr_inj (List.cons.inj e2).1
  rw [e1, e2]
end
end K21

set_option Elab.async false
set_option linter.all false
set_option maxRecDepth 100000
set_option pp.maxSteps 120
set_option maxHeartbeats 4000000
/-! K21d: sayings. -/
namespace K21
open PySem PySem.Spec PyProof.Rows L2 PD
/-- right triggers, right makes -/
def Tw (ws : List (List Str)) : Prop := ws.Nodup ∧ (∀ k ∈ ws, gw k ∧ k ≠ []) ∧ 1 ≤ ws.length ∧ ws.length ≤ 3
theorem Tw.ord {ws os : List (List Str)} (h : Tw ws) (io : IsOrd ws os) : Tw os := by
  have := ord_len io h.1
  exact ⟨io.nodup, fun k hk => h.2.1 k ((io.mem k).mp hk), by rw [this]; exact h.2.2.1, by rw [this]; exact h.2.2.2⟩
theorem Tw.gw {ws : List (List Str)} (h : Tw ws) : ∀ k ∈ ws, PD.gw k := fun k hk => (h.2.1 k hk).1
theorem Tw.ok {ws : List (List Str)} (h : Tw ws) : okWs ws := fun k hk => gw_ok (h.gw k hk)
theorem few3 {ws : List (List Str)} (h : ws.length ≤ 3) : FewW ws := fun us nd hs => by
  have := nodup_len nd hs
  omega
theorem few_clo {ws : List (List Str)} (g : ∀ k ∈ ws, PD.gw k) (h : ws.length ≤ 15) : FewW (clo ws) := fun us nd hs => by
  have h1 := nodup_len nd hs
  have h2 := fl_len g
  have : (clo ws).length = (ws.flatMap inits).length + 1 := rfl
  omega
theorem Tw.okF {ws : List (List Str)} (h : Tw ws) : okF ws := ⟨h.gw, by have := h.2.2.2; omega⟩
theorem Tw.clo {ws : List (List Str)} (h : Tw ws) : FewW (PD.clo ws) := few_clo h.gw (by have := h.2.2.2; omega)
def preT (ds : List D) : Prop := ∃ d ws, ds = [d] ∧ SqW d ws ∧ Tw ws
def preLi (ds : List D) : Prop := ∃ ws : List (List Str), ds = [.tup (ws.map wd)] ∧ (∀ k ∈ ws, gw k) ∧ ws.length ≤ 6
def postLi (ds es : List D) : Prop := ∀ ws : List (List Str), ds = [.tup (ws.map wd)] → ∃ ys, OrdS ws.flatten ys ∧ es = ys.map D.str
def sayF (oa ob : List (List Str)) : List (Str × D) := [("own_triggers", .tup (oa.map wd)), ("own_makes", .tup (ob.map wd))]
def sayD (K : PySem.W.Frag) (oa ob : List (List Str)) : D := .obj (He.ga K "Saying") (sayF oa ob)
theorem say_inj {K : PySem.W.Frag} {oa ob oc od : List (List Str)} (h : sayD K oa ob = sayD K oc od) : oa = oc ∧ ob = od := by
  unfold sayD sayF at h
  obtain ⟨_, h⟩ := D.obj.inj h
  obtain ⟨h1, h2⟩ := List.cons.inj h
  obtain ⟨h2, _⟩ := List.cons.inj h2
  exact ⟨wds_inj (D.tup.inj (Prod.mk.inj h1).2), wds_inj (D.tup.inj (Prod.mk.inj h2).2)⟩
def preS (ds : List D) : Prop := ∃ a b ws us, ds = [a, b] ∧ SqW a ws ∧ SqW b us ∧ Tw ws ∧ Tw us
def postS (ds : List D) (fs : List (Str × D)) : Prop := ∀ a b ws us, ds = [a, b] → SqW a ws → SqW b us → ∃ oa ob, IsOrd ws oa ∧ IsOrd us ob ∧ fs = sayF oa ob
def preSay (K : PySem.W.Frag) (ds : List D) : Prop := ∃ oa ob, ds = [sayD K oa ob] ∧ Tw oa ∧ Tw ob
def postTr (K : PySem.W.Frag) (ds es : List D) : Prop := ∀ oa ob, ds = [sayD K oa ob] → es = oa.map wd
def postMk (K : PySem.W.Frag) (ds es : List D) : Prop := ∀ oa ob, ds = [sayD K oa ob] → es = ob.map wd
def postLe (K : PySem.W.Frag) (ds es : List D) : Prop := ∀ oa ob, ds = [sayD K oa ob] → ∃ ys, OrdS (oa ++ ob).flatten ys ∧ es = ys.map D.str
def postMl (K : PySem.W.Frag) (ds es : List D) : Prop := ∀ oa ob, ds = [sayD K oa ob] → ∃ ys, OrdS ob.flatten ys ∧ es = ys.map D.str
def postTf (K : PySem.W.Frag) (ds : List D) (d : D) : Prop := ∀ oa ob, ds = [sayD K oa ob] → ∃ os, IsOrd (clo oa) os ∧ d = frD K os
def postMf (K : PySem.W.Frag) (ds : List D) (d : D) : Prop := ∀ oa ob, ds = [sayD K oa ob] → ∃ os, IsOrd (clo ob) os ∧ d = frD K os
def preW (K : PySem.W.Frag) (ds : List D) : Prop := ∃ oa ob d ws, ds = [sayD K oa ob, d] ∧ Tw oa ∧ Tw ob ∧ SqW d ws ∧ Tw ws
def postWt (K : PySem.W.Frag) (ds : List D) (r : D) : Prop := ∀ oa ob d ws, ds = [sayD K oa ob, d] → SqW d ws → IsOrd ob ob → ∃ oc, IsOrd ws oc ∧ r = sayD K oc ob
def postWm (K : PySem.W.Frag) (ds : List D) (r : D) : Prop := ∀ oa ob d ws, ds = [sayD K oa ob, d] → SqW d ws → IsOrd oa oa → ∃ oc, IsOrd ws oc ∧ r = sayD K oa oc
def Oth (K : PySem.W.Frag) (d : D) : Prop := ∃ t, TyIs K d t ∧ PySem.W.kitOne K t (.ref (He.ga K "Saying")) = some false
def preEq (K : PySem.W.Frag) (ds : List D) : Prop := ∃ oa ob e, ds = [sayD K oa ob, e] ∧ Tw oa ∧ Tw ob ∧ ((∃ oc od, e = sayD K oc od ∧ Tw oc ∧ Tw od) ∨ (Oth K e ∧ ∀ oc od, e ≠ sayD K oc od))
def postEq (K : PySem.W.Frag) (ds : List D) (d : D) : Prop := ∀ oa ob e, ds = [sayD K oa ob, e] → (∃ b, d = .bl b) ∧ (∀ oc od, e = sayD K oc od → d = .bl (decide (oa = oc) && decide (ob = od))) ∧ ((∀ oc od, e ≠ sayD K oc od) → d = .bl false)
def shL (ws : List (List Str)) : Str := (py (.lst (ws.map wd))).shown
def shS (oa ob : List (List Str)) : Str := ("Saying(" : Str) ++ shL oa ++ (", " : Str) ++ shL ob ++ (")" : Str)
theorem shL_len {ws : List (List Str)} (g : ∀ k ∈ ws, PD.gw k) (h : ws.length ≤ 3) : (shL ws).length ≤ 4000 := by
  obtain ⟨i1, i2, i3, i4, i5⟩ := smallA (small_wds g)
  unfold shL
  simp only [py, PyData.shown]
  have := listText_len_le (PyData.shownAll (pyA (ws.map wd)))
  rw [List.length_map] at i3 i4
  omega
theorem szk {n : Nat} (h : n ≤ 100000) : n ≤ sizeLine := Nat.le_trans h (by rw [sizeLine_eq]; decide)
section
variable {P : Program} {w : World} {K : PySem.W.Frag} {mg : Str → Option Value} {base : Heap} {Tb : List (Addr × Str)}
abbrev N_are_few : List Str := ["value"]
theorem sc_are_few : FnScope N_are_few ["value"] (defScope s_are_few) := ⟨rfl, rfl, rfl, by decide +kernel, rfl, by decide +kernel, by decide +kernel⟩
theorem ok_are_few (T : Txt P w K mg base Tb) {f : Addr} {fd : FuncData} (Dd : Df K mg "are_few" s_are_few ["value"] f fd) : FnOk P w K mg base CX0 2 f fd ["value"] (spD 1 preT fun _ d => d = .bl true) := by
  obtain ⟨f_is_list, fd_is_list, D_is_list⟩ := T.d_is_list
  refine okD Dd.F sc_are_few rfl (fun cdv A outer s H E hr => ?_)
  have nd := sc_are_few.nd
  refine ⟨_, (pss_one (ps_ret (pe_and (pe_call (ok_is_list T D_is_list) (hr.mono (by decide)) rfl D_is_list.m D_is_list.F.kp D_is_list.b .nil pass0 (pa_cons (pv 0) pa_nil)) (pe_one (pe_chain op_le op_le pe_int (pe_lenK (K := K) rfl rfl T.n_len (pa_cons (pv 0) pa_nil)) (pe_gint T.MOST_WORDS rfl)))))), fun z ds hl hp => ?_⟩
  obtain ⟨d, ws, rfl, hd, ht⟩ := hp
  refine x_ret (e_andV (e_call (a_cons (e_var rfl (a_nil ⟨rfl, ⟨_, ws, rfl, .inl hd⟩, ?_⟩)))))
  rintro _ rfl
  refine ⟨_, rfl, iteYB rfl ?_⟩
  have hlen : lenD d = some ws.length := by rcases hd with rfl | rfl <;> exact congrArg some (List.length_map ..)
  refine e_chain (e_int (e_cb (a_cons (e_var rfl (a_nil (o_lenK ⟨_, ws.length, rfl, hlen, ?_⟩))))))
  have h1 := ht.2.2.1
  have h3 := ht.2.2.2
  refine o_I0 ⟨_, _, rfl, rfl, _, rfl, iteYB (decide_eq_true (by omega)) ?_⟩
  refine e_int (o_I0 ⟨_, _, rfl, rfl, ?_⟩)
  exact congrArg D.bl (decide_eq_true (by omega))
abbrev N_wrong_position : List Str := ["words", "position", "word"]
theorem sc_wrong_position : FnScope N_wrong_position ["words"] (defScope s_wrong_position) := ⟨rfl, rfl, rfl, by decide +kernel, rfl, by decide +kernel, by decide +kernel⟩
theorem ok_wrong_position (T : Txt P w K mg base Tb) {f : Addr} {fd : FuncData} (Dd : Df K mg "wrong_position" s_wrong_position ["words"] f fd) : FnOk P w K mg base CX0 4 f fd ["words"] (spD 1 preT fun _ d => d = .non) := by
  obtain ⟨f_is_word, fd_is_word, D_is_word⟩ := T.d_is_word
  refine okD Dd.F sc_wrong_position rfl (fun cdv A outer s H E hr => ?_)
  have nd := sc_wrong_position.nd
  refine ⟨_, (pss_cons (ps_for PassesOwn.never rfl (pi_enumLT rfl T.n_enumerate (pa_cons (pv 0) pa_nil)) (pg_tup rfl (pgs_cons (pg_name (i := 1) nd rfl (Or.inl rfl)) (pgs_cons (pg_name (i := 2) nd rfl (Or.inl rfl)) pgs_nil))) (pss_one (ps_if (PW.pt (pw_or (pt_not (pt_val (pe_call (ok_is_word T D_is_word) (hr.mono (by decide)) rfl D_is_word.m D_is_word.F.kp D_is_word.b .nil pass0 (pa_cons (pv 2) pa_nil)))) (pw_or (pt_cmpR (r := rEqD K) (op_eqD hr.units) (pv 2) (pe_tup pa_nil) (nomark _)) (pw_or1 (pt_cmpR (r := rInA K) (op_inA (units65 hr)) (pv 2) (pe_slice (r := rSlLA K) sl_LA (pv 0) po_none (po_some (pv 1))) (by with_unfolding_all rfl)))))) (pss_one (ps_ret (pv 1))) pss_nil)))
    (pss_one (ps_ret pe_non))), fun z ds hl hp => ?_⟩
  obtain ⟨d, ws, rfl, hd, ht⟩ := hp
  refine x_seq (x_for (i_enumW (a_cons (e_var rfl (a_nil ⟨d, ws, rfl, .inl hd, fun i ρ => ∃ a b, ρ = [.va d, a, b], ⟨_, _, rfl⟩, ?_, ?_⟩)))))
  · rintro i _ hi ⟨a, b, rfl⟩
    refine g_eq (d' := .tup [.int (i : Nat), wd ws[i]]) (by
      show D.tup [.int (i : Nat), (ws.map wd).getD i .non] = _
      rw [List.getD_eq_getElem?_getD, List.getElem?_map, List.getElem?_eq_getElem hi]; rfl) ?_
    refine g_tup ⟨_, rfl, rfl, gs_cons (g_name (gs_cons (g_name (gs_nil ?_))))⟩
    obtain ⟨gk, nk⟩ := ht.2.1 _ (List.getElem_mem hi)
    have nm : ws[i] ∉ ws.take i := fun h => by
      obtain ⟨j, hj⟩ := List.getElem?_of_mem h
      obtain ⟨hj1, hj2⟩ := List.getElem?_eq_some_iff.mp hj
      rw [List.getElem_take] at hj2
      have hj3 : j < i := by rw [List.length_take] at hj1; omega
      exact (List.pairwise_iff_getElem.mp ht.1 j i (by omega) hi hj3) hj2
    generalize ws[i] = k at gk nk nm
    refine x_if (t_or (t_not (t_test (e_call (a_cons (e_var rfl (a_nil ⟨rfl, ⟨_, rfl, gw_Lw gk⟩, ?_⟩)))))))
    rintro _ rfl
    refine ⟨_, rfl, iteNB (by rw [show isW ([wd k].headD .non) = true from gw_isW gk]; rfl) ?_⟩
    refine t_or (t_test (e_op (e_var rfl (e_tup (a_nil ⟨sz rfl, o_eqW (l := []) (gw_ok gk) (gw_ok gw_nil) ⟨_, rfl, iteNB (decide_eq_false nk) ?_⟩⟩)))))
    refine t_test (e_op (e_var rfl (e_sl (e_var rfl (o_none (o_some (e_var rfl ⟨_, rfl, o_slLA (ds := ws.map wd) ?_⟩)))))))
    have ow : okWs (ws.take i) := fun l hl => gw_ok (ht.2.1 l (List.mem_of_mem_take hl)).1
    have ec : cutD (ws.map wd) none (some ((i : Nat) : Int)) = (ws.take i).map wd := by rw [cut_take, ← List.map_take]
    rw [ec]
    rcases hd with hd | hd
    · exact .inl ⟨hd, o_inWA (.inl rfl) (gw_ok gk) ow ⟨_, rfl, iteNB (decide_eq_false nm) (x_next ⟨_, _, rfl⟩)⟩⟩
    · exact .inr ⟨hd, o_inWA (.inr rfl) (gw_ok gk) ow ⟨_, rfl, iteNB (decide_eq_false nm) (x_next ⟨_, _, rfl⟩)⟩⟩
  · rintro _ ⟨a, b, rfl⟩
    exact x_ret (e_non rfl)
abbrev N_want_triggers : List Str := ["value"]
theorem sc_want_triggers : FnScope N_want_triggers ["value"] (defScope s_want_triggers) := ⟨rfl, rfl, rfl, by decide +kernel, rfl, by decide +kernel, by decide +kernel⟩
theorem ok_want_triggers (T : Txt P w K mg base Tb) {f : Addr} {fd : FuncData} (Dd : Df K mg "want_triggers" s_want_triggers ["value"] f fd) : FnOk P w K mg base CX0 5 f fd ["value"] (spD 1 preT fun _ _ => True) := by
  obtain ⟨f_are_few, fd_are_few, D_are_few⟩ := T.d_are_few
  obtain ⟨f_wrong_position, fd_wrong_position, D_wrong_position⟩ := T.d_wrong_position
  refine okD Dd.F sc_want_triggers rfl (fun cdv A outer s H E hr => ?_)
  have nd := sc_want_triggers.nd
  refine ⟨_, (pss_one (ps_if (PW.pt (pw_or (pt_not (pt_val (pe_call (ok_are_few T D_are_few) (hr.mono (by decide)) rfl D_are_few.m D_are_few.F.kp D_are_few.b .nil pass0 (pa_cons (pv 0) pa_nil)))) (pw_or1 (pt_cmpR (r := rNotN) op_notN (pe_call (ok_wrong_position T D_wrong_position) (hr.mono (by decide)) rfl D_wrong_position.m D_wrong_position.F.kp D_wrong_position.b .nil pass0 (pa_cons (pv 0) pa_nil)) pe_non (nomark _))))) (pss_one ps_never) pss_nil)), fun z ds hl hp => ?_⟩
  obtain ⟨d, ws, rfl, hd, ht⟩ := hp
  refine x_if (t_or (t_not (t_test (e_call (a_cons (e_var rfl (a_nil ⟨rfl, ⟨_, ws, rfl, hd, ht⟩, ?_⟩)))))))
  rintro _ rfl
  refine ⟨_, rfl, iteNB rfl ?_⟩
  refine t_test (e_op (e_call (a_cons (e_var rfl (a_nil ⟨rfl, ⟨_, ws, rfl, hd, ht⟩, ?_⟩)))))
  rintro _ rfl
  exact e_non (o_notN (i := 0) (.inl ⟨rfl, _, rfl, iteNB rfl (x_next trivial)⟩))
abbrev N_want_makes : List Str := ["value"]
theorem sc_want_makes : FnScope N_want_makes ["value"] (defScope s_want_makes) := ⟨rfl, rfl, rfl, by decide +kernel, rfl, by decide +kernel, by decide +kernel⟩
theorem ok_want_makes (T : Txt P w K mg base Tb) {f : Addr} {fd : FuncData} (Dd : Df K mg "want_makes" s_want_makes ["value"] f fd) : FnOk P w K mg base CX0 5 f fd ["value"] (spD 1 preT fun _ _ => True) := by
  obtain ⟨f_are_few, fd_are_few, D_are_few⟩ := T.d_are_few
  obtain ⟨f_wrong_position, fd_wrong_position, D_wrong_position⟩ := T.d_wrong_position
  refine okD Dd.F sc_want_makes rfl (fun cdv A outer s H E hr => ?_)
  have nd := sc_want_makes.nd
  refine ⟨_, (pss_one (ps_if (PW.pt (pw_or (pt_not (pt_val (pe_call (ok_are_few T D_are_few) (hr.mono (by decide)) rfl D_are_few.m D_are_few.F.kp D_are_few.b .nil pass0 (pa_cons (pv 0) pa_nil)))) (pw_or1 (pt_cmpR (r := rNotN) op_notN (pe_call (ok_wrong_position T D_wrong_position) (hr.mono (by decide)) rfl D_wrong_position.m D_wrong_position.F.kp D_wrong_position.b .nil pass0 (pa_cons (pv 0) pa_nil)) pe_non (nomark _))))) (pss_one ps_never) pss_nil)), fun z ds hl hp => ?_⟩
  obtain ⟨d, ws, rfl, hd, ht⟩ := hp
  refine x_if (t_or (t_not (t_test (e_call (a_cons (e_var rfl (a_nil ⟨rfl, ⟨_, ws, rfl, hd, ht⟩, ?_⟩)))))))
  rintro _ rfl
  refine ⟨_, rfl, iteNB rfl ?_⟩
  refine t_test (e_op (e_call (a_cons (e_var rfl (a_nil ⟨rfl, ⟨_, ws, rfl, hd, ht⟩, ?_⟩)))))
  rintro _ rfl
  exact e_non (o_notN (i := 0) (.inl ⟨rfl, _, rfl, iteNB rfl (x_next trivial)⟩))
abbrev N_letters_in : List Str := ["words", "word", "letter"]
theorem sc_letters_in : FnScope N_letters_in ["words"] (defScope s_letters_in) := ⟨rfl, rfl, rfl, by decide +kernel, rfl, by decide +kernel, by decide +kernel⟩
theorem ok_letters_in (T : Txt P w K mg base Tb) {f : Addr} {fd : FuncData} (Dd : Df K mg "letters_in" s_letters_in ["words"] f fd) : FnOk P w K mg base CX0 1 f fd ["words"] (spN 1 preLi postLi) := by
  refine okN Dd.F sc_letters_in rfl (fun cdv A outer s H E hr => ?_)
  have nd := sc_letters_in.nd
  refine ⟨_, (pss_one (ps_ret (WS.pe_sortSetS rfl hr.units rfl T.n_sorted rfl T.n_set (pe_lc2 (own := [("word", 1), ("letter", 2)]) (vs1 := [2]) (g := gName 1) (g1 := gName 2) (tt := tYes) (tt1 := tYes) rfl nd (pi_tup (pv 0)) (blkOk_by (N := N_letters_in) (sc := defScope s_letters_in) (by decide +kernel)) (by simp) (fun _ _ _ _ _ => pg_name (i := 1) nd rfl (Or.inl rfl)) (fun _ _ _ _ _ => pts_nil) (fun _ _ _ _ _ => (pi_tupK rfl (pv 1))) (fun _ _ _ _ _ => pg_name (i := 2) nd rfl (Or.inl rfl)) (fun _ _ _ _ _ => pts_nil) (fun _ _ _ _ _ => (pv 2)))))), fun z ds hl hp => ?_⟩
  obtain ⟨ws, rfl, hg, h6⟩ := hp
  refine xn_ret (n_sortSetS (e_of_n (n_lc2 (i_tup (e_var rfl ⟨_, rfl, ?_, fun i acc => acc = ((ws.take i).flatten).map D.str, rfl, ?_, ?_⟩)))))
  · rw [List.length_map]; omega
  · rintro i _ hi rfl
    rw [List.length_map] at hi
    have et : ws.take (i + 1) = ws.take i ++ [ws[i]] := List.take_succ_eq_append_getElem hi
    have gk := hg _ (List.getElem_mem hi)
    have eg : (ws.map wd).getD i .non = wd ws[i] := getWs hi
    generalize ws[i] = k at et eg gk
    dsimp only
    rw [eg]
    have h3 := gk.1
    refine ge_name (by simp) (i_tup (e_var rfl ⟨k.map D.str, rfl, ?_, fun j acc' => acc' = ((ws.take i).flatten ++ k.take j).map D.str, by simp, ?_, ?_⟩))
    · rw [List.length_map]; omega
    · rintro j _ hj rfl
      rw [List.length_map] at hj
      have eh : (k.map D.str).getD j .non = .str k[j] := getW hj
      have eu : k.take (j + 1) = k.take j ++ [k[j]] := List.take_succ_eq_append_getElem hj
      generalize k[j] = x at eh eu
      dsimp only
      rw [eh]
      refine ge_name (by simp) (e_var rfl ?_)
      rw [eu, ← List.append_assoc, List.map_append (l₂ := [x])]
      rfl
    · rintro _ rfl
      rw [List.length_map, List.take_length, et, List.flatten_append]
      simp
  · rintro _ rfl
    rw [List.length_map, List.take_length]
    have fl : ∀ ws : List (List Str), (∀ k ∈ ws, gw k) → ws.flatten.length ≤ 3 * ws.length := fun ws => by
      induction ws with
      | nil => intro _; simp
      | cons k ws ih =>
        intro h
        have h1 := ih fun l hl => h l (List.mem_cons_of_mem _ hl)
        have h2 := (h k List.mem_cons_self).1
        rw [List.flatten_cons, List.length_append, List.length_cons]
        omega
    have := fl ws hg
    refine ⟨ws.flatten, .inl rfl, by omega, fun ys oy ws' e => ?_⟩
    have e := wds_inj (D.tup.inj (List.cons.inj e).1)
    subst e
    exact ⟨ys, oy, rfl⟩
theorem fls (T : Txt P w K mg base Tb) {z : Zp} {i : Nat} {oa ob : List (List Str)} {ρ : List (Option D)} {PP : D → Prop} {f : Str} {v : D} (h1 : ρ[i]? = some (some (sayD K oa ob))) (h2 : f ∈ (["own_triggers", "own_makes"] : List Str)) (h3 : (sayF oa ob).lookup f = some v) (h4 : PP v) : E1 z (tFld K (tVar i) f) ρ PP := e_fld (e_var h1 ⟨_, _, _, rfl, T.o_Saying.o.cl, T.o_Saying.nf _ h2, h3, h4⟩)
abbrev N_Saying___init__ : List Str := ["self", "triggers", "makes"]
theorem sc_Saying___init__ : FnScope N_Saying___init__ ["self", "triggers", "makes"] (defScope s_Saying___init__) := ⟨rfl, rfl, rfl, by decide +kernel, rfl, by decide +kernel, by decide +kernel⟩
theorem ok_Saying___init__ (T : Txt P w K mg base Tb) {f : Addr} {fd : FuncData} (Dd : Mf K (He.ga K "Saying") "__init__" "Saying.__init__" s_Saying___init__ ["self", "triggers", "makes"] f fd) : FnOk P w K mg base (L2.CX P w) 6 f fd ["self", "triggers", "makes"] (spInit (He.ga K "Saying") 2 preS postS noX) := by
  obtain ⟨f_ordered, fd_ordered, D_ordered⟩ := T.d_ordered
  obtain ⟨f_want_triggers, fd_want_triggers, D_want_triggers⟩ := T.d_want_triggers
  obtain ⟨f_want_makes, fd_want_makes, D_want_makes⟩ := T.d_want_makes
  refine okI (N := ["triggers", "makes"]) Dd.F sc_Saying___init__ rfl (fun cdv A outer s H E hr => ?_)
  have nd := sc_Saying___init__.nd
  refine ⟨_, (pss_cons (ps_expr (pe_call (ok_want_triggers T D_want_triggers) (hr.mono (by decide)) rfl D_want_triggers.m D_want_triggers.F.kp D_want_triggers.b .nil pass0 (pa_cons (pv 1) pa_nil)))
    (pss_cons (ps_expr (pe_call (ok_want_makes T D_want_makes) (hr.mono (by decide)) rfl D_want_makes.m D_want_makes.F.kp D_want_makes.b .nil pass0 (pa_cons (pv 2) pa_nil)))
    (pss_cons (ps_fld (pv 0) (pe_tupleOf rfl T.n_tuple (pe_call (ok_ordered T D_ordered) (hr.mono (by decide)) rfl D_ordered.m D_ordered.F.kp D_ordered.b .nil pass0 (pa_cons (pv 1) pa_nil))) rfl)
    (pss_one (ps_fld (pv 0) (pe_tupleOf rfl T.n_tuple (pe_call (ok_ordered T D_ordered) (hr.mono (by decide)) rfl D_ordered.m D_ordered.F.kp D_ordered.b .nil pass0 (pa_cons (pv 2) pa_nil))) rfl))))), fun z a ds hl hp => ?_⟩
  obtain ⟨d, e, ws, us, rfl, hd, he, tw, tu⟩ := hp
  refine x_seq (x_drop (e_call (a_cons (e_var rfl (a_nil ⟨rfl, ⟨d, ws, rfl, hd, tw⟩, fun _ _ => ?_⟩)))))
  refine x_seq (x_drop (e_call (a_cons (e_var rfl (a_nil ⟨rfl, ⟨e, us, rfl, he, tu⟩, fun _ _ => ?_⟩)))))
  have one : ∀ {d : D} {ws : List (List Str)}, SqW d ws → [d] = [.lst (ws.map wd)] ∨ [d] = [.tup (ws.map wd)] := fun h => h.imp (fun h => by rw [h]) fun h => by rw [h]
  refine x_seq (x_fld (i := 0) (a := a) (C := He.ga K "Saying") (fs := []) rfl T.o_Saying.o.cl (T.o_Saying.nf _ (by simp)) (by simp) rfl (e_tupOf (e_ofNew (n_call (a_cons (e_var rfl (a_nil ⟨rfl, ⟨ws, tw.gw, few3 tw.2.2.2, one hd⟩, fun es h => h _ (one hd)⟩)))) ?_)))
  rintro _ ⟨oa, io, rfl⟩
  refine ⟨_, .inl rfl, ?_⟩
  refine x_fld (i := 0) (a := a) (C := He.ga K "Saying") (fs := [("own_triggers", .tup (oa.map wd))]) rfl T.o_Saying.o.cl (T.o_Saying.nf _ (by simp)) (by simp) rfl (e_tupOf (e_ofNew (n_call (a_cons (e_var rfl (a_nil ⟨rfl, ⟨us, tu.gw, few3 tu.2.2.2, one he⟩, fun es h => h _ (one he)⟩)))) ?_))
  rintro _ ⟨ob, io2, rfl⟩
  refine ⟨_, .inl rfl, _, rfl, fun a' b' ws' us' e1 h1 h2 => ?_⟩
  obtain ⟨e1, e2⟩ := List.cons.inj e1
  have e2 := (List.cons.inj e2).1
  subst e1 e2
  have e1 := hd.inj h1
  have e2 := he.inj h2
  subst e1 e2
  exact ⟨oa, ob, io, io2, rfl⟩
abbrev N_Saying_triggers : List Str := ["self"]
theorem sc_Saying_triggers : FnScope N_Saying_triggers ["self"] (defScope s_Saying_triggers) := ⟨rfl, rfl, rfl, by decide +kernel, rfl, by decide +kernel, by decide +kernel⟩
theorem ok_Saying_triggers (T : Txt P w K mg base Tb) {f : Addr} {fd : FuncData} (Dd : Mf K (He.ga K "Saying") "triggers" "Saying.triggers" s_Saying_triggers ["self"] f fd) : FnOk P w K mg base CX0 1 f fd ["self"] (spN 1 (preSay K) (postTr K)) := by

  refine okN Dd.F sc_Saying_triggers rfl (fun cdv A outer s H E hr => ?_)
  have nd := sc_Saying_triggers.nd
  refine ⟨_, (pss_one (ps_ret (pe_callTy call_list_of rfl T.n_list PyProof.Rows.boot_list (pa_cons (pe_fld (pv 0) rfl) pa_nil)))), fun z ds hl hp => ?_⟩
  obtain ⟨oa, ob, rfl, ta, tb⟩ := hp
  refine xn_ret (n_listOf (a_cons (fls T (v := .tup (oa.map wd)) rfl (by simp) rfl (a_nil ⟨_, .inr rfl, fun oc od e => ?_⟩))))
  rw [(say_inj (List.cons.inj e).1).1]
abbrev N_Saying_makes : List Str := ["self"]
theorem sc_Saying_makes : FnScope N_Saying_makes ["self"] (defScope s_Saying_makes) := ⟨rfl, rfl, rfl, by decide +kernel, rfl, by decide +kernel, by decide +kernel⟩
theorem ok_Saying_makes (T : Txt P w K mg base Tb) {f : Addr} {fd : FuncData} (Dd : Mf K (He.ga K "Saying") "makes" "Saying.makes" s_Saying_makes ["self"] f fd) : FnOk P w K mg base CX0 1 f fd ["self"] (spN 1 (preSay K) (postMk K)) := by

  refine okN Dd.F sc_Saying_makes rfl (fun cdv A outer s H E hr => ?_)
  have nd := sc_Saying_makes.nd
  refine ⟨_, (pss_one (ps_ret (pe_callTy call_list_of rfl T.n_list PyProof.Rows.boot_list (pa_cons (pe_fld (pv 0) rfl) pa_nil)))), fun z ds hl hp => ?_⟩
  obtain ⟨oa, ob, rfl, ta, tb⟩ := hp
  refine xn_ret (n_listOf (a_cons (fls T (v := .tup (ob.map wd)) rfl (by simp) rfl (a_nil ⟨_, .inr rfl, fun oc od e => ?_⟩))))
  rw [(say_inj (List.cons.inj e).1).2]
abbrev N_Saying_letters : List Str := ["self"]
theorem sc_Saying_letters : FnScope N_Saying_letters ["self"] (defScope s_Saying_letters) := ⟨rfl, rfl, rfl, by decide +kernel, rfl, by decide +kernel, by decide +kernel⟩
theorem ok_Saying_letters (T : Txt P w K mg base Tb) {f : Addr} {fd : FuncData} (Dd : Mf K (He.ga K "Saying") "letters" "Saying.letters" s_Saying_letters ["self"] f fd) : FnOk P w K mg base CX0 2 f fd ["self"] (spN 1 (preSay K) (postLe K)) := by
  obtain ⟨f_letters_in, fd_letters_in, D_letters_in⟩ := T.d_letters_in
  refine okN Dd.F sc_Saying_letters rfl (fun cdv A outer s H E hr => ?_)
  have nd := sc_Saying_letters.nd
  refine ⟨_, (pss_one (ps_ret (pe_call (ok_letters_in T D_letters_in) (hr.mono (by decide)) rfl D_letters_in.m D_letters_in.F.kp D_letters_in.b .nil pass0 (pa_cons (pe_op (r := rCatA K) op_catA (pe_fld (pv 0) rfl) (pe_fld (pv 0) rfl)) pa_nil)))), fun z ds hl hp => ?_⟩
  obtain ⟨oa, ob, rfl, ta, tb⟩ := hp
  have la := ta.2.2.2
  have lb := tb.2.2.2
  refine xn_ret (n_call (a_cons (e_op (fls T (v := .tup (oa.map wd)) rfl (by simp) rfl (fls T (v := .tup (ob.map wd)) rfl (by simp) rfl (o_catA ⟨_, _, rfl, rfl, ?_, ?_⟩))))))
  · rw [List.length_map, List.length_map]
    exact szl (by omega)
  rw [← List.map_append]
  refine a_nil ⟨rfl, ⟨oa ++ ob, rfl, fun k hk => (List.mem_append.mp hk).elim (ta.gw k) (tb.gw k), by rw [List.length_append]; omega⟩, fun es h oc od e => ?_⟩
  obtain ⟨e1, e2⟩ := say_inj (List.cons.inj e).1
  subst e1 e2
  exact h _ rfl
abbrev N_Saying_make_letters : List Str := ["self"]
theorem sc_Saying_make_letters : FnScope N_Saying_make_letters ["self"] (defScope s_Saying_make_letters) := ⟨rfl, rfl, rfl, by decide +kernel, rfl, by decide +kernel, by decide +kernel⟩
theorem ok_Saying_make_letters (T : Txt P w K mg base Tb) {f : Addr} {fd : FuncData} (Dd : Mf K (He.ga K "Saying") "make_letters" "Saying.make_letters" s_Saying_make_letters ["self"] f fd) : FnOk P w K mg base CX0 2 f fd ["self"] (spN 1 (preSay K) (postMl K)) := by
  obtain ⟨f_letters_in, fd_letters_in, D_letters_in⟩ := T.d_letters_in
  refine okN Dd.F sc_Saying_make_letters rfl (fun cdv A outer s H E hr => ?_)
  have nd := sc_Saying_make_letters.nd
  refine ⟨_, (pss_one (ps_ret (pe_call (ok_letters_in T D_letters_in) (hr.mono (by decide)) rfl D_letters_in.m D_letters_in.F.kp D_letters_in.b .nil pass0 (pa_cons (pe_fld (pv 0) rfl) pa_nil)))), fun z ds hl hp => ?_⟩
  obtain ⟨oa, ob, rfl, ta, tb⟩ := hp
  have lb := tb.2.2.2
  refine xn_ret (n_call (a_cons (fls T (v := .tup (ob.map wd)) rfl (by simp) rfl (a_nil ⟨rfl, ⟨ob, rfl, tb.gw, by omega⟩, fun es h oc od e => ?_⟩))))
  obtain ⟨e1, e2⟩ := say_inj (List.cons.inj e).1
  subst e1 e2
  exact h _ rfl
abbrev N_Saying_trigger_front : List Str := ["self"]
theorem sc_Saying_trigger_front : FnScope N_Saying_trigger_front ["self"] (defScope s_Saying_trigger_front) := ⟨rfl, rfl, rfl, by decide +kernel, rfl, by decide +kernel, by decide +kernel⟩
theorem ok_Saying_trigger_front (T : Txt P w K mg base Tb) {f : Addr} {fd : FuncData} (Dd : Mf K (He.ga K "Saying") "trigger_front" "Saying.trigger_front" s_Saying_trigger_front ["self"] f fd) : FnOk P w K mg base (L2.CX P w) 8 f fd ["self"] (spDX 1 (preSay K) (postTf K) noX) := by
  obtain ⟨f_Front___init__, fd_Front___init__, D_Front___init__⟩ := T.m_Front___init__
  refine okX Dd.F sc_Saying_trigger_front rfl (fun cdv A outer s H E hr => ?_)
  have nd := sc_Saying_trigger_front.nd
  refine ⟨_, (pss_one (ps_ret (pe_make (T.o_Front.mkK' D_Front___init__) (ok_Front___init__ T D_Front___init__) (hr.mono (by decide)) rfl T.o_Front.g D_Front___init__.b .nil (passes_call (takes_of rfl rfl rfl rfl) (fun _ _ _ _ h => h)) (pa_cons (pe_fld (pv 0) rfl) pa_nil)))), fun z ds hl hp => ?_⟩
  obtain ⟨oa, ob, rfl, ta, tb⟩ := hp
  refine x_retM (ex_make (a_cons (fls T (v := .tup (oa.map wd)) rfl (by simp) rfl (a_nil ⟨rfl, ⟨_, oa, rfl, .inl (.inr rfl), ta.okF, ta.clo⟩, fun fs h => ?_, fun _ _ h => h⟩))))
  obtain ⟨vs, io, rfl⟩ := h _ oa rfl (.inl (.inr rfl))
  intro oc od e
  obtain ⟨e1, e2⟩ := say_inj (List.cons.inj e).1
  subst e1 e2
  exact ⟨vs, io, rfl⟩
abbrev N_Saying_make_front : List Str := ["self"]
theorem sc_Saying_make_front : FnScope N_Saying_make_front ["self"] (defScope s_Saying_make_front) := ⟨rfl, rfl, rfl, by decide +kernel, rfl, by decide +kernel, by decide +kernel⟩
theorem ok_Saying_make_front (T : Txt P w K mg base Tb) {f : Addr} {fd : FuncData} (Dd : Mf K (He.ga K "Saying") "make_front" "Saying.make_front" s_Saying_make_front ["self"] f fd) : FnOk P w K mg base (L2.CX P w) 8 f fd ["self"] (spDX 1 (preSay K) (postMf K) noX) := by
  obtain ⟨f_Front___init__, fd_Front___init__, D_Front___init__⟩ := T.m_Front___init__
  refine okX Dd.F sc_Saying_make_front rfl (fun cdv A outer s H E hr => ?_)
  have nd := sc_Saying_make_front.nd
  refine ⟨_, (pss_one (ps_ret (pe_make (T.o_Front.mkK' D_Front___init__) (ok_Front___init__ T D_Front___init__) (hr.mono (by decide)) rfl T.o_Front.g D_Front___init__.b .nil (passes_call (takes_of rfl rfl rfl rfl) (fun _ _ _ _ h => h)) (pa_cons (pe_fld (pv 0) rfl) pa_nil)))), fun z ds hl hp => ?_⟩
  obtain ⟨oa, ob, rfl, ta, tb⟩ := hp
  refine x_retM (ex_make (a_cons (fls T (v := .tup (ob.map wd)) rfl (by simp) rfl (a_nil ⟨rfl, ⟨_, ob, rfl, .inl (.inr rfl), tb.okF, tb.clo⟩, fun fs h => ?_, fun _ _ h => h⟩))))
  obtain ⟨vs, io, rfl⟩ := h _ ob rfl (.inl (.inr rfl))
  intro oc od e
  obtain ⟨e1, e2⟩ := say_inj (List.cons.inj e).1
  subst e1 e2
  exact ⟨vs, io, rfl⟩
abbrev N_Saying_with_triggers : List Str := ["self", "triggers"]
theorem sc_Saying_with_triggers : FnScope N_Saying_with_triggers ["self", "triggers"] (defScope s_Saying_with_triggers) := ⟨rfl, rfl, rfl, by decide +kernel, rfl, by decide +kernel, by decide +kernel⟩
theorem ok_Saying_with_triggers (T : Txt P w K mg base Tb) {f : Addr} {fd : FuncData} (Dd : Mf K (He.ga K "Saying") "with_triggers" "Saying.with_triggers" s_Saying_with_triggers ["self", "triggers"] f fd) : FnOk P w K mg base (L2.CX P w) 8 f fd ["self", "triggers"] (spDX 2 (preW K) (postWt K) noX) := by
  obtain ⟨f_Saying___init__, fd_Saying___init__, D_Saying___init__⟩ := T.m_Saying___init__
  refine okX Dd.F sc_Saying_with_triggers rfl (fun cdv A outer s H E hr => ?_)
  have nd := sc_Saying_with_triggers.nd
  refine ⟨_, (pss_one (ps_ret (pe_make (T.o_Saying.mkK D_Saying___init__) (ok_Saying___init__ T D_Saying___init__) (hr.mono (by decide)) rfl T.o_Saying.g D_Saying___init__.b .nil (passes_call (takes_of rfl rfl rfl rfl) (fun _ _ _ _ h => h)) (pa_cons (pv 1) (pa_cons (pe_fld (pv 0) rfl) pa_nil))))), fun z ds hl hp => ?_⟩
  obtain ⟨oa, ob, d, ws, rfl, ta, tb, hd, tw⟩ := hp
  refine x_retM (ex_make (a_cons (e_var rfl (a_cons (fls T (v := .tup (ob.map wd)) rfl (by simp) rfl (a_nil ⟨rfl, ⟨d, _, ws, ob, rfl, hd, .inr rfl, tw, tb⟩, fun fs h => ?_, fun _ _ h => h⟩))))))
  obtain ⟨oc, od, i1, i2, rfl⟩ := h _ _ ws ob rfl hd (.inr rfl)
  intro oa' ob' d' ws' e hd' iob
  obtain ⟨e1, e2⟩ := List.cons.inj e
  obtain ⟨e3, e4⟩ := say_inj e1
  subst e3 e4
  have e2 := (List.cons.inj e2).1
  subst e2
  have e5 := hd.inj hd'
  subst e5
  exact ⟨oc, i1, by rw [i2.unique iob]; rfl⟩
abbrev N_Saying_with_makes : List Str := ["self", "makes"]
theorem sc_Saying_with_makes : FnScope N_Saying_with_makes ["self", "makes"] (defScope s_Saying_with_makes) := ⟨rfl, rfl, rfl, by decide +kernel, rfl, by decide +kernel, by decide +kernel⟩
theorem ok_Saying_with_makes (T : Txt P w K mg base Tb) {f : Addr} {fd : FuncData} (Dd : Mf K (He.ga K "Saying") "with_makes" "Saying.with_makes" s_Saying_with_makes ["self", "makes"] f fd) : FnOk P w K mg base (L2.CX P w) 8 f fd ["self", "makes"] (spDX 2 (preW K) (postWm K) noX) := by
  obtain ⟨f_Saying___init__, fd_Saying___init__, D_Saying___init__⟩ := T.m_Saying___init__
  refine okX Dd.F sc_Saying_with_makes rfl (fun cdv A outer s H E hr => ?_)
  have nd := sc_Saying_with_makes.nd
  refine ⟨_, (pss_one (ps_ret (pe_make (T.o_Saying.mkK D_Saying___init__) (ok_Saying___init__ T D_Saying___init__) (hr.mono (by decide)) rfl T.o_Saying.g D_Saying___init__.b .nil (passes_call (takes_of rfl rfl rfl rfl) (fun _ _ _ _ h => h)) (pa_cons (pe_fld (pv 0) rfl) (pa_cons (pv 1) pa_nil))))), fun z ds hl hp => ?_⟩
  obtain ⟨oa, ob, d, ws, rfl, ta, tb, hd, tw⟩ := hp
  refine x_retM (ex_make (a_cons (fls T (v := .tup (oa.map wd)) rfl (by simp) rfl (a_cons (e_var rfl (a_nil ⟨rfl, ⟨_, d, oa, ws, rfl, .inr rfl, hd, ta, tw⟩, fun fs h => ?_, fun _ _ h => h⟩))))))
  obtain ⟨oc, od, i1, i2, rfl⟩ := h _ _ oa ws rfl (.inr rfl) hd
  intro oa' ob' d' ws' e hd' ioa
  obtain ⟨e1, e2⟩ := List.cons.inj e
  obtain ⟨e3, e4⟩ := say_inj e1
  subst e3 e4
  have e2 := (List.cons.inj e2).1
  subst e2
  have e5 := hd.inj hd'
  subst e5
  exact ⟨od, i2, by rw [i1.unique ioa]; rfl⟩
abbrev N_Saying___eq__ : List Str := ["self", "other"]
theorem sc_Saying___eq__ : FnScope N_Saying___eq__ ["self", "other"] (defScope s_Saying___eq__) := ⟨rfl, rfl, rfl, by decide +kernel, rfl, by decide +kernel, by decide +kernel⟩
theorem ok_Saying___eq__ (T : Txt P w K mg base Tb) {f : Addr} {fd : FuncData} (Dd : Mf K (He.ga K "Saying") "__eq__" "Saying.__eq__" s_Saying___eq__ ["self", "other"] f fd) : FnOk P w K mg base CX0 1 f fd ["self", "other"] (spD 2 (preEq K) (postEq K)) := by

  refine okD Dd.F sc_Saying___eq__ rfl (fun cdv A outer s H E hr => ?_)
  have nd := sc_Saying___eq__.nd
  refine ⟨_, (pss_cons (ps_if (pt_not (pt_val (pe_callB (r := rIsi K) call_isi rfl T.n_isinstance boot_isinstance (pa_cons (pv 1) (pa_cons (pe_glob (v := .ref (He.ga K "Saying")) rfl T.g_Saying rfl) pa_nil))))) (pss_one (ps_ret pe_bl)) pss_nil)
    (pss_one (ps_ret (pe_and (pe_cmpR (r := rEqD K) (op_eqD hr.units) (pe_fld (pv 0) rfl) (pe_fld (pv 1) rfl) (nomark _)) (pe_one (pe_cmpR (r := rEqD K) (op_eqD hr.units) (pe_fld (pv 0) rfl) (pe_fld (pv 1) rfl) (nomark _))))))), fun z ds hl hp => ?_⟩
  obtain ⟨oa, ob, e, rfl, ta, tb, hp⟩ := hp
  rcases hp with ⟨oc, od, rfl, tc, td⟩ | ⟨⟨t, ht, hk⟩, hne⟩
  · refine x_seq (x_if (t_not (t_test (e_cb (a_cons (e_var rfl (a_cons (e_raw (a_nil (o_isOwn (tyIs_obj T.o_Saying.o) T.o_Saying.me ⟨_, rfl, iteNB rfl (x_next ?_)⟩))))))))))
    have fin : ∀ d : D, d = .bl (decide (oa = oc) && decide (ob = od)) → postEq K [sayD K oa ob, sayD K oc od] d := fun d hd oa' ob' e' h => by
      obtain ⟨h1, h2⟩ := List.cons.inj h
      obtain ⟨h3, h4⟩ := say_inj h1
      have h2 := (List.cons.inj h2).1
      subst h3 h4 h2
      refine ⟨⟨_, hd⟩, fun x y hxy => ?_, fun hn => absurd rfl (hn oc od)⟩
      obtain ⟨h5, h6⟩ := say_inj hxy
      subst h5 h6
      exact hd
    refine x_ret (e_andV (e_op (fls T (v := .tup (oa.map wd)) rfl (by simp) rfl (fls T (v := .tup (oc.map wd)) rfl (by simp) rfl (o_eqWt ta.ok tc.ok ⟨_, rfl, iteB (fun h => ?_) (fun h => ?_)⟩)))))
    · refine e_op (fls T (v := .tup (ob.map wd)) rfl (by simp) rfl (fls T (v := .tup (od.map wd)) rfl (by simp) rfl (o_eqWt tb.ok td.ok (fin _ ?_))))
      rw [show decide (oa = oc) = true from h, Bool.true_and]
    · refine fin _ ?_
      rw [show decide (oa = oc) = false from h, Bool.false_and]
  · refine x_seq (x_if (t_not (t_test (e_cb (a_cons (e_var rfl (a_cons (e_raw (a_nil (o_isOwn ht hk ⟨_, rfl, iteYB rfl (x_ret (e_bl ?_))⟩))))))))))
    intro oa' ob' e' h
    obtain ⟨h1, h2⟩ := List.cons.inj h
    have h2 := (List.cons.inj h2).1
    subst h2
    exact ⟨⟨_, rfl⟩, fun x y hxy => absurd hxy (hne x y), fun _ => rfl⟩
abbrev N_Saying___repr__ : List Str := ["self"]
theorem sc_Saying___repr__ : FnScope N_Saying___repr__ ["self"] (defScope s_Saying___repr__) := ⟨rfl, rfl, rfl, by decide +kernel, rfl, by decide +kernel, by decide +kernel⟩
theorem ok_Saying___repr__ (T : Txt P w K mg base Tb) {f : Addr} {fd : FuncData} (Dd : Mf K (He.ga K "Saying") "__repr__" "Saying.__repr__" s_Saying___repr__ ["self"] f fd) : FnG P w K mg base CX0 2 f fd ["self"] (spD 1 (preSay K) fun ds d => ∀ oa ob, ds = [sayD K oa ob] → d = .str (shS oa ob)) := by
  obtain ⟨f_Saying_triggers, fd_Saying_triggers, D_Saying_triggers⟩ := T.m_Saying_triggers
  obtain ⟨f_Saying_makes, fd_Saying_makes, D_Saying_makes⟩ := T.m_Saying_makes
  refine okDG Dd.F sc_Saying___repr__ rfl (fun cdv A outer s H E hgd hr => ?_)
  have nd := sc_Saying___repr__.nd
  refine ⟨_, (pss_one (ps_ret (pe_joined (PJ.cons pe_str (PJ.cons (pe_fmtW hgd hr.units (pe_meth0 (pv 0) T.o_Saying.o.cl D_Saying_triggers.M (ok_Saying_triggers T D_Saying_triggers) (hr.mono (by decide)) D_Saying_triggers.b .nil pass0)) (PJ.cons pe_str (PJ.cons (pe_fmtW hgd hr.units (pe_meth0 (pv 0) T.o_Saying.o.cl D_Saying_makes.M (ok_Saying_makes T D_Saying_makes) (hr.mono (by decide)) D_Saying_makes.b .nil pass0)) (PJ.cons pe_str PJ.nil)))))))), fun z ds hl hp => ?_⟩
  obtain ⟨oa, ob, rfl, ta, tb⟩ := hp
  have la := shL_len ta.gw ta.2.2.2
  have lb := shL_len tb.gw tb.2.2.2
  have l0 : (("Saying(" : Str)).length = 7 := by decide +kernel
  have l1 : ((", " : Str)).length = 2 := by decide +kernel
  have l2 : ((")" : Str)).length = 1 := by decide +kernel
  have l3 : (Str.empty).length = 0 := rfl
  refine x_ret (e_joined (ej_cons (e_str ⟨_, rfl, ?_, ?_⟩)))
  · rw [app_len]
    exact szk (by omega)
  refine ej_cons (e_fmtWs (e_ofNew (n_meth (e_var rfl ⟨_, rfl, rfl, a_nil ⟨rfl, ⟨oa, ob, rfl, ta, tb⟩, fun es h => h _ _ rfl⟩⟩)) ?_))
  rintro _ rfl
  refine ⟨_, rfl, ta.ok, szk (by show (shL oa).length ≤ _; omega), _, rfl, ?_, ?_⟩
  · show ((Str.empty ++ ("Saying(" : Str)) ++ shL oa).length ≤ _
    rw [app_len, app_len]
    exact szk (by omega)
  refine ej_cons (e_str ⟨_, rfl, ?_, ?_⟩)
  · show (((Str.empty ++ ("Saying(" : Str)) ++ shL oa) ++ (", " : Str)).length ≤ _
    rw [app_len, app_len, app_len]
    exact szk (by omega)
  refine ej_cons (e_fmtWs (e_ofNew (n_meth (e_var rfl ⟨_, rfl, rfl, a_nil ⟨rfl, ⟨oa, ob, rfl, ta, tb⟩, fun es h => h _ _ rfl⟩⟩)) ?_))
  rintro _ rfl
  refine ⟨_, rfl, tb.ok, szk (by show (shL ob).length ≤ _; omega), _, rfl, ?_, ?_⟩
  · show ((((Str.empty ++ ("Saying(" : Str)) ++ shL oa) ++ (", " : Str)) ++ shL ob).length ≤ _
    rw [app_len, app_len, app_len, app_len]
    exact szk (by omega)
  refine ej_cons (e_str ⟨_, rfl, ?_, ej_nil ?_⟩)
  · show (((((Str.empty ++ ("Saying(" : Str)) ++ shL oa) ++ (", " : Str)) ++ shL ob) ++ (")" : Str)).length ≤ _
    rw [app_len, app_len, app_len, app_len, app_len]
    exact szk (by omega)
  intro oc od e
  obtain ⟨e1, e2⟩ := say_inj (List.cons.inj e).1
  subst e1 e2
  show D.str (((((Str.empty ++ ("Saying(" : Str)) ++ shL oa) ++ (", " : Str)) ++ shL ob) ++ (")" : Str)) = _
  rw [emp_app]
  rfl
end
end K21

set_option Elab.async false
set_option linter.all false
set_option maxRecDepth 100000
set_option pp.maxSteps 120
set_option maxHeartbeats 4000000
/-! K21f: the law's letters and lists of words. -/
namespace K21
open PySem PySem.Spec PyProof.Rows L2 PD
theorem getW {k : List Str} {i : Nat} (hi : i < k.length) : (k.map D.str).getD i .non = .str k[i] := by
  rw [List.getD_eq_getElem?_getD, List.getElem?_map, List.getElem?_eq_getElem hi]; rfl
theorem getWs {ws : List (List Str)} {i : Nat} (hi : i < ws.length) : (ws.map wd).getD i .non = wd ws[i] := by
  rw [List.getD_eq_getElem?_getD, List.getElem?_map, List.getElem?_eq_getElem hi]; rfl
theorem getDe {α : Type} {ss : List α} {x : α} {i : Nat} (hi : i < ss.length) : ss.getD i x = ss[i] := by
  rw [List.getD_eq_getElem?_getD, List.getElem?_eq_getElem hi]; rfl
theorem range_map {α β : Type} (x : α) (f : α → β) (ss : List α) : (List.range ss.length).map (fun i => f (ss.getD i x)) = ss.map f := by
  refine List.ext_getElem (by simp) fun i h1 h2 => ?_
  have hi : i < ss.length := by simpa using h1
  simp only [List.getElem_map, List.getElem_range]
  rw [getDe hi]
theorem range_filter {α β : Type} (x : α) (c : α → Bool) (f : α → β) (ss : List α) : ((List.range ss.length).filter fun i => c (ss.getD i x)).map (fun i => f (ss.getD i x)) = (ss.filter c).map f := by
  have h := range_map x id ss
  rw [List.map_id] at h
  conv => rhs; rw [← h]
  rw [List.filter_map, List.map_map]
  rfl
theorem head_of {α : Type} {xs : List α} (h : xs ≠ []) : ∃ v ∈ xs, atI xs 0 = some v := by
  have hp := List.length_pos_iff.mpr h
  refine ⟨xs[0], List.getElem_mem _, ?_⟩
  unfold atI ixN
  rw [if_pos (by omega), if_pos (by omega), Option.bind_some]
  exact List.getElem?_eq_getElem hp
theorem atI_map {α β : Type} (f : α → β) (xs : List α) (i : Int) : atI (xs.map f) i = (atI xs i).map f := by
  unfold atI
  rw [List.length_map]
  cases ixN xs.length i with
  | none => rfl
  | some j => rw [Option.bind_some, Option.bind_some, List.getElem?_map]
/-! ### signs -/
def alst : List Nat := alph.cps.toList
theorem alst_len : alst.length = 26 := by decide +kernel
theorem alst_nodup : alst.Nodup := by decide +kernel
def oneC (c : Nat) : Str := ⟨#[c]⟩
theorem oneC_tl (c : Nat) : TL.tl (oneC c) = [c] := rfl
theorem cut7 (x : Str) (h : x.length ≤ 5) : L2.cutS x none (some 7) = x := by
  unfold L2.cutS
  refine TL.ext_tl ?_
  show (x.cps.toList.drop _).take _ = x.cps.toList
  have hl : x.length = x.cps.toList.length := rfl
  rw [HT.sIx_none, List.drop_zero]
  refine List.take_of_length_le ?_
  rw [show (some (7 : Int)) = some ((7 : Nat) : Int) from rfl, HT.sIx_nat]
  omega
theorem add_inj {x : Str} {c d : Nat} (h : x ++ oneC c = x ++ oneC d) : c = d := by
  have := congrArg TL.tl h
  rw [TL.tl_append, TL.tl_append, oneC_tl, oneC_tl] at this
  have := List.append_cancel_left this
  simpa using this
def near (x : Str) : List Str := x :: alst.map fun c => x ++ oneC c
theorem near_sgn {x : Str} (h : sgn x = true) (h5 : x.length ≤ 5) : ∀ y ∈ near x, sgn y = true := fun y hy => by
  rcases List.mem_cons.mp hy with rfl | hy
  · exact h
  · obtain ⟨c, hc, rfl⟩ := List.mem_map.mp hy
    exact add_sgn h (by omega) hc
theorem near_new {x : Str} {us : List Str} (h : us.length < 26) : ∃ y ∈ near x, y ∉ us := by
  by_cases q : ∃ c ∈ alst, x ++ oneC c ∉ us
  · obtain ⟨c, hc, hn⟩ := q
    exact ⟨_, List.mem_cons_of_mem _ (List.mem_map.mpr ⟨c, hc, rfl⟩), hn⟩
  · have nd : (alst.map fun c => x ++ oneC c).Nodup := by
      refine List.Pairwise.map _ (fun a b hab e => hab (add_inj e)) alst_nodup
    have := nodup_len nd (ws := us) fun k hk => by
      obtain ⟨c, hc, rfl⟩ := List.mem_map.mp hk
      exact Decidable.byContradiction fun hn => q ⟨c, hc, hn⟩
    rw [List.length_map, alst_len] at this
    omega
theorem sum_ones : ∀ ys : List Str, (∀ y ∈ ys, ∃ c ∈ alph.cps.toList, y = ⟨#[c]⟩) → (ys.map (·.length)).sum = ys.length
  | [], _ => rfl
  | y :: ys, h => by
    obtain ⟨c, _, rfl⟩ := h y (List.mem_cons_self ..)
    rw [List.map_cons, List.sum_cons, sum_ones ys fun y hy => h y (List.mem_cons_of_mem _ hy), List.length_cons]
    show 1 + ys.length = _
    omega
def okSs (ss : List Str) : Prop := 0 < ss.length ∧ ss.length ≤ 3 ∧ ∀ x ∈ ss, sgn x = true
def preAm (ds : List D) : Prop := ∃ n : Nat, ds = [.pot, .int (n : Nat)] ∧ 1 ≤ n ∧ n ≤ 3
def postSg (_ : List D) (d : D) : Prop := ∃ ss : List Str, d = .lst (ss.map D.str) ∧ okSs ss ∧ ∀ x ∈ ss, x.length ≤ 7
theorem near_len {x : Str} (h5 : x.length ≤ 5) : ∀ y ∈ near x, y.length ≤ 7 := fun y hy => by
  rcases List.mem_cons.mp hy with rfl | hy
  · omega
  · obtain ⟨c, hc, rfl⟩ := List.mem_map.mp hy
    have : (x ++ oneC c).length = x.length + 1 := app_len x (oneC c)
    omega
def preAll (ds : List D) : Prop := ∃ ss : List Str, ds = [.lst (ss.map D.str), .int 3] ∧ okSs ss
def postAll (ds : List D) (d : D) : Prop := ∃ ss : List Str, ds = [.lst (ss.map D.str), .int 3] ∧ d = .lst (([] :: fndW ss 3).map wd)
def preSs (ds : List D) : Prop := ∃ ss : List Str, ds = [.pot, .lst (ss.map D.str)] ∧ okSs ss
/-- right triggers, right makes -/
def Right (ss : List Str) (d : D) : Prop := ∃ us : List (List Str), d = .lst (us.map wd) ∧ Tw us ∧ ∀ k ∈ us, ∀ x ∈ k, x ∈ ss
theorem strs_inj {ss us : List Str} (h : ss.map D.str = us.map D.str) : ss = us := wd_inj (show wd ss = wd us by unfold wd; rw [h])
theorem fnd3l {ss : List Str} (hs : ∀ x ∈ ss, sgn x = true) : ∀ k ∈ fndW ss 3, (gw k ∧ k ≠ []) ∧ ∀ x ∈ k, x ∈ ss := fun k hk => ⟨fnd3 hs k hk, ((mem_over ss 3 k).mp (List.mem_cons_of_mem _ hk)).2⟩
theorem ext_len {ss : List Str} (h : ss.length ≤ 3) (l : List (List Str)) : (l.flatMap fun v => ss.map fun t => v ++ [t]).length ≤ l.length * 3 := by
  induction l with
  | nil => simp
  | cons a l ih =>
    rw [List.flatMap_cons, List.length_append, List.length_map, List.length_cons]
    omega
theorem lay_le {ss : List Str} (h : ss.length ≤ 3) {t : Nat} (ht : t ≤ 3) : (layW ss t).length ≤ 27 := by
  rw [lay_len]
  exact Nat.le_trans (Nat.pow_le_pow_left h t) (Nat.le_trans (Nat.pow_le_pow_right (by decide) ht) (by decide))
section
variable {P : Program} {w : World} {K : PySem.W.Frag} {mg : Str → Option Value} {base : Heap} {Tb : List (Addr × Str)}
abbrev N_law_tags : List Str := ["_law_pot_here", "_law_amount", "_law_found", "_law_signs", "_law_turn", "_law_tag", "_law_near_here", "_law_at", "_law_sign", "_law_new"]
theorem sc_law_tags : FnScope N_law_tags ["_law_pot_here", "_law_amount"] (defScope s_law_tags) := ⟨rfl, rfl, rfl, by decide +kernel, rfl, by decide +kernel, by decide +kernel⟩
theorem ok_law_tags (T : Txt P w K mg base Tb) {f : Addr} {fd : FuncData} (Dd : Df K mg "_law_tags" s_law_tags ["_law_pot_here", "_law_amount"] f fd) : FnOk P w K mg base CX0 3 f fd ["_law_pot_here", "_law_amount"] (spD 2 preAm postSg) := by
  obtain ⟨f__law_draw, fd__law_draw, D_law_draw⟩ := T.d__law_draw
  obtain ⟨f__law_pick, fd__law_pick, D_law_pick⟩ := T.d__law_pick
  refine okD Dd.F sc_law_tags rfl (fun cdv A outer s H E hr => ?_)
  have nd := sc_law_tags.nd
  refine ⟨_, (pss_cons (ps_asg (pe_tup (pa_cons (pe_lst pa_nil) (pa_cons pe_str pa_nil))) (pg_tup rfl (pgs_cons (pg_name (i := 2) nd rfl (Or.inr rfl)) (pgs_cons (pg_name (i := 3) nd rfl (Or.inr rfl)) pgs_nil))))
    (pss_cons (ps_for PassesOwn.never rfl (pi_range1 rfl T.n_range (pa_cons (pv 1) pa_nil)) (pg_name (i := 4) nd rfl (Or.inl rfl)) (pss_cons (ps_asg (pe_joinK (K := K) rfl pe_str (pe_lc (own := [("_law_at", 7)]) (g := gName 7) (tt := tYes) rfl nd (pi_range1 rfl T.n_range (pa_cons (pe_op op_add pe_int (pe_op op_mul (pe_call (ok_law_draw T D_law_draw) (hr.mono (by decide)) rfl D_law_draw.m D_law_draw.F.kp D_law_draw.b .nil pass0 (pa_cons (pv 0) (pa_cons pe_int pa_nil))) (pe_call (ok_law_draw T D_law_draw) (hr.mono (by decide)) rfl D_law_draw.m D_law_draw.F.kp D_law_draw.b .nil pass0 (pa_cons (pv 0) (pa_cons pe_int pa_nil))))) pa_nil)) (blkOk_by (N := N_law_tags) (sc := defScope s_law_tags) (by decide +kernel)) (fun _ _ _ _ _ => pg_name (i := 7) nd rfl (Or.inl rfl)) (fun _ _ _ _ _ => pts_nil) (fun _ _ _ _ _ => (pe_call (ok_law_pick T D_law_pick) (hr.mono (by decide)) rfl D_law_pick.m D_law_pick.F.kp D_law_pick.b .nil pass0 (pa_cons (pv 0) (pa_cons (pv 3) pa_nil)))))) (pg_name (i := 5) nd rfl (Or.inr rfl)))
    (pss_cons (ps_asg (pe_op op_cat (pe_lst (pa_cons (pv 5) pa_nil)) (pe_lc (own := [("_law_sign", 8)]) (g := gName 8) (tt := tYes) rfl nd (pi_str (pv 3)) (blkOk_by (N := N_law_tags) (sc := defScope s_law_tags) (by decide +kernel)) (fun _ _ _ _ _ => pg_name (i := 8) nd rfl (Or.inl rfl)) (fun _ _ _ _ _ => pts_nil) (fun _ _ _ _ _ => (pe_op op_add_str (pe_slice sl_str (pv 5) po_none (po_some pe_int)) (pv 8))))) (pg_name (i := 6) nd rfl (Or.inl rfl)))
    (pss_one (ps_expr (pe_bm PySem.F.plainAttrs_list PySem.F.slot_list_append PySem.F.type_list_append mt_append (pv 2) (pa_cons (pe_ix (r := rIxL K) ix_list (pe_lc (own := [("_law_new", 9)]) (g := gName 9) rfl nd (pi_list (pv 6)) (blkOk_by (N := N_law_tags) (sc := defScope s_law_tags) (by decide +kernel)) (fun _ _ _ _ _ => pg_name (i := 9) nd rfl (Or.inl rfl)) (fun _ _ _ _ _ => pts_one (pt_cmpR (r := rIn K true) op_notIn_seq (pv 9) (pv 2) (by with_unfolding_all rfl))) (fun _ _ _ _ _ => (pv 9))) pe_int (by intro _ _; rfl)) pa_nil)))))))
    (pss_one (ps_ret (WS.pe_sortStr hr.units rfl T.n_sorted rfl T.n_str (pv 2)))))), fun z ds hl hp => ?_⟩
  obtain ⟨n, rfl, n1, n3⟩ := hp
  refine x_seq (x_tupNV (Nat.le_of_ble_eq_true rfl) (n_lst (a_nil ⟨sz rfl, e_str ?_⟩)))
  refine x_seq (x_for (i_rng1 (a_cons (e_var rfl (a_nil ⟨_, rfl, by omega, by omega, fun i ρ => ∃ (ss : List Str) (a b c d e f : Sl), ρ = [.va .pot, .va (.int (n : Nat)), .ow (ss.map D.str), .va (.str alph), a, b, c, d, e, f] ∧ ss.length = i ∧ ∀ x ∈ ss, sgn x = true ∧ x.length ≤ 7, ⟨[], _, _, _, _, _, _, rfl, rfl, fun x h => by cases h⟩, ?_, ?_⟩)))))
  · rintro t _ ht ⟨ss, a, b, c, d, e, f, rfl, hss, hs⟩
    have ht : t < n := by omega
    refine g_name ?_
    refine x_seq (x_asg (e_m1 (e_str ⟨_, rfl, ?_⟩)))
    refine e_lc (i_rng1 (a_cons (e_op (e_int (e_op (e_call (a_cons (e_var rfl (a_cons (e_int (a_nil ⟨rfl, ⟨3, rfl, by decide, by decide⟩, ?_⟩)))))))))))
    rintro _ ⟨_, q1, e1, rfl, q10, q11⟩
    cases e1
    refine e_call (a_cons (e_var rfl (a_cons (e_int (a_nil ⟨rfl, ⟨3, rfl, by decide, by decide⟩, ?_⟩)))))
    rintro _ ⟨_, q2, e1, rfl, q20, q21⟩
    cases e1
    obtain ⟨m1, rfl⟩ := Int.eq_ofNat_of_zero_le q10
    obtain ⟨m2, rfl⟩ := Int.eq_ofNat_of_zero_le q20
    have hm : m1 * m2 ≤ 2 * 2 := Nat.mul_le_mul (by omega) (by omega)
    have em : ((m1 : Int) * (m2 : Int)) = ((m1 * m2 : Nat) : Int) := by simp
    refine o_I ⟨_, _, rfl, rfl, .inl ⟨by omega, by omega⟩, o_I0 ⟨_, _, rfl, rfl, ?_⟩⟩
    rw [em]
    generalize m1 * m2 = m at hm
    refine a_nil ⟨_, rfl, by omega, by omega, by omega, fun i acc => ∃ ys : List Str, acc = ys.map D.str ∧ ys.length = i ∧ ∀ y ∈ ys, ∃ c ∈ alph.cps.toList, y = ⟨#[c]⟩, ⟨[], rfl, rfl, fun x h => by cases h⟩, ?_, ?_⟩
    · rintro i _ hi _ ⟨ys, rfl, hy, hg⟩
      refine ge_name (by simp) (t_yes (iteT ?_))
      refine e_call (a_cons (e_var rfl (a_cons (e_var rfl (a_nil ⟨rfl, .inr ⟨alph, rfl, by decide +kernel, by decide +kernel⟩, ?_⟩)))))
      rintro _ (⟨_, _, e1, h, _⟩ | ⟨x, c, e1, hc, rfl⟩)
      · cases e1
        rcases h with h | h <;> cases h
      · cases e1
        refine ⟨ys ++ [⟨#[c]⟩], by rw [List.map_append]; rfl, by rw [List.length_append, hy]; rfl, fun y h => ?_⟩
        rcases List.mem_append.mp h with h | h
        · exact hg y h
        · exact ⟨c, hc, List.mem_singleton.mp h⟩
    rintro _ _ ⟨ys, rfl, hy, hg⟩
    have so := sum_ones ys hg
    have e0 : (("" : Str)).length = 0 := by decide +kernel
    refine m_joinK ⟨ys, .inl rfl, by rw [so, e0]; omega, g_name ?_⟩
    have hj := join_sgn hg (by omega) (by omega)
    have h5 : (Txt.join "" ys).length ≤ 5 := by
      have e : (Txt.join "" ys).length = ys.length := by
        rw [TL.len_tl, PD.join_nil, List.length_flatten, List.map_map]
        exact so
      omega
    generalize Txt.join "" ys = x at hj h5
    refine x_seq (x_asg (e_op (e_lst (a_cons (e_var rfl (a_nil ⟨sz rfl, ?_⟩))))))
    refine e_lcG rfl (i_str (e_var rfl ⟨alph, rfl, by decide +kernel, fun i => .str (x ++ oneC (alst.getD i 0)), ?_, ?_⟩))
    · rintro i hi _ rfl
      refine e_op (e_sl (e_var rfl (o_none (o_some (e_int ⟨_, rfl, o_slS ⟨x, rfl, szl (by omega), ?_⟩⟩)))))
      rw [cut7 x h5]
      refine e_var (at_slot rfl) (o_addS ⟨_, _, rfl, rfl, ?_, ?_⟩)
      · show x.length + 1 ≤ _
        exact szl (by omega)
      · rw [PD.getD_list]
        rfl
    have es : alph.cps.size = alst.length := by decide +kernel
    rw [es, range_map 0 (fun c => D.str (x ++ oneC c)) alst]
    refine o_cat ⟨_, _, rfl, rfl, ?_, g_name ?_⟩
    · rw [List.length_map, alst_len]
      exact sz rfl
    have en : [D.str x] ++ alst.map (fun c => D.str (x ++ oneC c)) = (near x).map D.str := by
      unfold near
      rw [List.map_cons, List.map_map]
      rfl
    rw [en]
    refine x_appendT rfl (by rw [List.length_map]; exact Nat.lt_of_lt_of_le (show ss.length < 100 by omega) (sz rfl)) ?_
    refine e_op (e_lcIf rfl (i_list (e_var rfl ⟨_, rfl, ?_, fun i => .str ((near x).getD i ""), fun i => !decide ((near x).getD i "" ∈ ss), ?_, ?_⟩)))
    · rw [List.length_map]
      unfold near
      rw [List.length_cons, List.length_map, alst_len]
      decide
    · rintro i hi _ rfl
      rw [List.length_map] at hi
      have eg : ((near x).map D.str).getD i .non = .str ((near x).getD i "") := by rw [getW hi, getDe hi]
      dsimp only
      rw [eg]
      refine t_test (e_op (e_var (at_slot rfl) (e_var rfl (o_notInS ⟨_, rfl, rfl, fun _ => e_var (at_slot rfl) rfl⟩))))
    rw [List.length_map, range_filter ("" : Str) (fun y => !decide (y ∈ ss)) D.str (near x)]
    have ne : (near x).filter (fun y => !decide (y ∈ ss)) ≠ [] := by
      obtain ⟨y, h1, h2⟩ := near_new (x := x) (us := ss) (by omega)
      exact List.ne_nil_of_mem (List.mem_filter.mpr ⟨h1, by simpa using h2⟩)
    obtain ⟨y, hy, ha⟩ := head_of ne
    refine e_int (o_ixL ⟨_, _, .str y, rfl, rfl, by rw [atI_map, ha]; rfl, rfl, ss ++ [y], _, _, _, _, _, _, by rw [List.map_append]; rfl, by rw [List.length_append, hss]; rfl, fun u hu => ?_⟩)
    rcases List.mem_append.mp hu with hu | hu
    · exact hs u hu
    · rw [List.mem_singleton.mp hu]
      exact ⟨near_sgn hj h5 y (List.mem_filter.mp hy).1, near_len h5 y (List.mem_filter.mp hy).1⟩
  · rintro _ ⟨ss, a, b, c, d, e, f, rfl, hss, hs⟩
    refine x_ret (e_sortStr (e_var rfl ⟨ss, rfl, by omega, fun ys pm => ⟨ys, rfl, ⟨by rw [pm.length_eq]; omega, by rw [pm.length_eq]; omega, fun x hx => (hs x (pm.mem_iff.mp hx)).1⟩, fun x hx => (hs x (pm.mem_iff.mp hx)).2⟩⟩))
abbrev N_law_all : List Str := ["_law_tags_here", "_law_most", "_law_found", "_law_last", "_law_turn", "_law_longer", "_law_verse", "_law_tag"]
theorem sc_law_all : FnScope N_law_all ["_law_tags_here", "_law_most"] (defScope s_law_all) := ⟨rfl, rfl, rfl, by decide +kernel, rfl, by decide +kernel, by decide +kernel⟩
theorem ok_law_all (T : Txt P w K mg base Tb) {f : Addr} {fd : FuncData} (Dd : Df K mg "_law_all" s_law_all ["_law_tags_here", "_law_most"] f fd) : FnOk P w K mg base CX0 1 f fd ["_law_tags_here", "_law_most"] (spD 2 preAll postAll) := by

  refine okD Dd.F sc_law_all rfl (fun cdv A outer s H E hr => ?_)
  have nd := sc_law_all.nd
  refine ⟨_, (pss_cons (ps_par (i := 2) (j := 3) rfl nd rfl rfl (by decide) rfl rfl (pa_cons (pe_lst (pa_cons (pe_tup pa_nil) pa_nil)) (pa_cons (pe_lst (pa_cons (pe_tup pa_nil) pa_nil)) pa_nil)) (by rfl))
    (pss_cons (ps_for PassesOwn.never rfl (pi_range1 rfl T.n_range (pa_cons (pv 1) pa_nil)) (pg_name (i := 4) nd rfl (Or.inl rfl)) (pss_cons (ps_asg (pe_lst pa_nil) (pg_name (i := 5) nd rfl (Or.inl rfl)))
    (pss_cons (ps_for PassesOwn.never rfl (pi_list (pv 3)) (pg_name (i := 6) nd rfl (Or.inr rfl)) (pss_one (ps_expr (pe_bm PySem.F.plainAttrs_list PySem.F.slot_list_extend PySem.F.type_list_extend mt_extend (pv 5) (pa_cons (pe_lc (own := [("_law_tag", 7)]) (g := gName 7) (tt := tYes) rfl nd (pi_list (pv 0)) (blkOk_by (N := N_law_all) (sc := defScope s_law_all) (by decide +kernel)) (fun _ _ _ _ _ => pg_name (i := 7) nd rfl (Or.inl rfl)) (fun _ _ _ _ _ => pts_nil) (fun _ _ _ _ _ => (pe_op (r := rCatA K) op_catA (pv 6) (pe_tup (pa_cons (pv 7) pa_nil))))) pa_nil)))))
    (pss_cons (ps_asg (pv 5) (pg_name (i := 3) nd rfl (Or.inl rfl)))
    (pss_one (ps_asg (pe_op op_cat (pv 2) (pv 3)) (pg_name (i := 2) nd rfl (Or.inl rfl))))))))
    (pss_one (ps_ret (pv 2))))), fun z ds hl hp => ?_⟩
  obtain ⟨ss, rfl, s0, s3, hs⟩ := hp
  refine x_seq (x_par (a_cons (e_lst ?_)))
  refine a_cons (e_tup (a_nil ⟨sz rfl, a_nil ⟨sz rfl, ?_⟩⟩))
  refine a_cons (e_lst (a_cons (e_tup (a_nil ⟨sz rfl, a_nil ⟨sz rfl, a_nil ⟨_, _, rfl, ?_⟩⟩⟩))))
  refine x_seq (x_for (i_rng1 (a_cons (e_var rfl (a_nil ⟨_, rfl, by decide, by decide, fun i ρ => ∃ (a b c d : Sl), ρ = [.va (.lst (ss.map D.str)), .va (.int 3), .va (.lst (([] :: fndW ss i).map wd)), .va (.lst ((layW ss i).map wd)), a, b, c, d], ⟨_, _, _, _, rfl⟩, ?_, ?_⟩)))))
  · rintro t _ ht ⟨a, b, c, d, rfl⟩
    have ht : t < 3 := ht
    refine g_name ?_
    refine x_seq (x_own (Nat.le_of_ble_eq_true rfl) (a_nil ⟨sz rfl, ?_⟩))
    have hl := lay_le s3 (t := t) (by omega)
    refine x_seq (x_for (i_list (e_var rfl ⟨_, rfl, fun i ρ => ∃ (c d : Sl), ρ = [.va (.lst (ss.map D.str)), .va (.int 3), .va (.lst (([] :: fndW ss t).map wd)), .va (.lst ((layW ss t).map wd)), .va (.int (t : Nat)), .ow ((((layW ss t).take i).flatMap fun v => ss.map fun x => v ++ [x]).map wd), c, d], ⟨_, _, rfl⟩, ?_, ?_⟩)))
    · rintro i _ hi ⟨c, d, rfl⟩
      rw [List.length_map] at hi
      refine g_eq (d' := wd (layW ss t)[i]) (getWs hi) (g_name ?_)
      have hk := lay_mem ss hs t _ (List.getElem_mem hi)
      have et : (layW ss t).take (i + 1) = (layW ss t).take i ++ [(layW ss t)[i]] := List.take_succ_eq_append_getElem hi
      have lt := ext_len s3 ((layW ss t).take i)
      generalize (layW ss t)[i] = v at hk et
      refine x_extend rfl (e_lcG rfl (i_list (e_var rfl ⟨_, rfl, ?_, fun i => wd (v ++ [ss.getD i ""]), ?_, ?_⟩)))
      · rw [List.length_map]; omega
      · rintro j hj _ rfl
        rw [List.length_map] at hj
        have eg : (ss.map D.str).getD j .non = .str (ss.getD j "") := by rw [getW hj, getDe hj]
        dsimp only
        rw [eg]
        refine e_op (e_var rfl (e_tup (a_cons (e_var (at_slot rfl) (a_nil ⟨sz rfl, o_catA ⟨_, [.str (ss.getD j "")], rfl, rfl, ?_, ?_⟩⟩)))))
        · rw [List.length_map]
          exact szl (by simp; omega)
        · show D.tup (v.map D.str ++ [D.str (ss.getD j "")]) = D.tup ((v ++ [ss.getD j ""]).map D.str)
          rw [List.map_append]
          rfl
      rw [List.length_map, range_map ("" : Str) (fun x => wd (v ++ [x])) ss]
      refine ⟨_, rfl, ?_, .va (wd v), d, ?_⟩
      · rw [List.length_map, List.length_map, List.length_take] at *
        exact szl (by omega)
      · have e2 : ((layW ss t).take (i + 1)).flatMap (fun v => ss.map fun x => v ++ [x]) = ((layW ss t).take i).flatMap (fun v => ss.map fun x => v ++ [x]) ++ ss.map fun x => v ++ [x] := by
          rw [et, List.flatMap_append]
          simp
        rw [e2, List.map_append, List.map_map]
        rfl
    · rintro _ ⟨c, d, rfl⟩
      rw [List.length_map, List.take_length]
      refine x_seq (x_free (i := 5) rfl (x_asg (e_var rfl (g_name ?_))))
      refine x_asg (e_op (e_var rfl (e_var rfl (o_cat ⟨_, _, rfl, rfl, ?_, g_name ⟨.va (.int (t : Nat)), .va (.lst (((layW ss t).flatMap fun v => ss.map fun x => v ++ [x]).map wd)), c, d, ?_⟩⟩))))
      · rw [List.length_map, List.length_map]
        have h1 : (fndW ss t ++ layW ss (t + 1)).length ≤ 39 := by
          refine Nat.le_trans ?_ (fnd3_len s3)
          have : ∀ n, (fndW ss n).length ≤ (fndW ss (n + 1)).length := fun n => by
            show _ ≤ (fndW ss n ++ _).length
            rw [List.length_append]
            omega
          have m : ∀ n, n ≤ 3 → (fndW ss n).length ≤ (fndW ss 3).length := fun n hn => by
            rcases (by omega : n = 0 ∨ n = 1 ∨ n = 2 ∨ n = 3) with rfl | rfl | rfl | rfl
            · exact Nat.zero_le _
            · exact Nat.le_trans (this 1) (this 2)
            · exact this 2
            · exact Nat.le_refl _
          exact m (t + 1) (by omega)
        rw [List.length_append] at h1
        have h2 : ((layW ss t).flatMap fun v => ss.map fun x => v ++ [x]).length ≤ 39 := Nat.le_trans (Nat.le_add_left ..) h1
        have h3 : (fndW ss t).length ≤ 39 := Nat.le_trans (Nat.le_add_right ..) h1
        rw [List.length_cons]
        exact szl (by omega)
      · rw [← List.map_append]
        rfl
  · rintro _ ⟨a, b, c, d, rfl⟩
    exact x_ret (e_var rfl ⟨ss, rfl, rfl⟩)
abbrev N_law_verses : List Str := ["_law_pot_here", "_law_tags_here", "_law_found", "_law_menu", "_law_turn", "_law_at", "_law_turned", "_law_verse"]
theorem sc_law_verses : FnScope N_law_verses ["_law_pot_here", "_law_tags_here"] (defScope s_law_verses) := ⟨rfl, rfl, rfl, by decide +kernel, rfl, by decide +kernel, by decide +kernel⟩
theorem ok_law_verses (T : Txt P w K mg base Tb) {f : Addr} {fd : FuncData} (Dd : Df K mg "_law_verses" s_law_verses ["_law_pot_here", "_law_tags_here"] f fd) : FnOk P w K mg base CX0 3 f fd ["_law_pot_here", "_law_tags_here"] (spD 2 preSs fun ds d => ∀ ss : List Str, ds = [.pot, .lst (ss.map D.str)] → Right ss d) := by
  obtain ⟨f__law_draw, fd__law_draw, D_law_draw⟩ := T.d__law_draw
  obtain ⟨f__law_all, fd__law_all, D_law_all⟩ := T.d__law_all
  refine okD Dd.F sc_law_verses rfl (fun cdv A outer s H E hr => ?_)
  have nd := sc_law_verses.nd
  refine ⟨_, (pss_cons (ps_asg (pe_tup (pa_cons (pe_lst pa_nil) (pa_cons (pe_slice (r := rSlL K) sl_list (pe_call (ok_law_all T D_law_all) (hr.mono (by decide)) rfl D_law_all.m D_law_all.F.kp D_law_all.b .nil pass0 (pa_cons (pv 1) (pa_cons pe_int pa_nil))) (po_some pe_int) po_none) pa_nil))) (pg_tup rfl (pgs_cons (pg_name (i := 2) nd rfl (Or.inr rfl)) (pgs_cons (pg_name (i := 3) nd rfl (Or.inl rfl)) pgs_nil))))
    (pss_cons (ps_for PassesOwn.never rfl (pi_range1 rfl T.n_range (pa_cons (pe_op op_add pe_int (pe_call (ok_law_draw T D_law_draw) (hr.mono (by decide)) rfl D_law_draw.m D_law_draw.F.kp D_law_draw.b .nil pass0 (pa_cons (pv 0) (pa_cons pe_int pa_nil)))) pa_nil)) (pg_name (i := 4) nd rfl (Or.inl rfl)) (pss_cons (ps_asg (pe_call (ok_law_draw T D_law_draw) (hr.mono (by decide)) rfl D_law_draw.m D_law_draw.F.kp D_law_draw.b .nil pass0 (pa_cons (pv 0) (pa_cons (pe_lenK (K := K) rfl rfl T.n_len (pa_cons (pv 3) pa_nil)) pa_nil))) (pg_name (i := 5) nd rfl (Or.inl rfl)))
    (pss_cons (ps_asg (pe_op op_cat (pe_slice (r := rSlL K) sl_list (pv 3) (po_some (pv 5)) po_none) (pe_slice (r := rSlL K) sl_list (pv 3) po_none (po_some (pv 5)))) (pg_name (i := 6) nd rfl (Or.inl rfl)))
    (pss_one (ps_expr (pe_bm PySem.F.plainAttrs_list PySem.F.slot_list_append PySem.F.type_list_append mt_append (pv 2) (pa_cons (pe_ix (r := rIxL K) ix_list (pe_lc (own := [("_law_verse", 7)]) (g := gName 7) rfl nd (pi_list (pv 6)) (blkOk_by (N := N_law_verses) (sc := defScope s_law_verses) (by decide +kernel)) (fun _ _ _ _ _ => pg_name (i := 7) nd rfl (Or.inl rfl)) (fun _ _ _ _ _ => pts_one (pt_cmpR (r := rNotInD K) (op_notInD (units65 hr)) (pv 7) (pv 2) (by with_unfolding_all rfl))) (fun _ _ _ _ _ => (pv 7))) pe_int (by intro _ _; rfl)) pa_nil)))))))
    (pss_one (ps_ret (pv 2))))), fun z ds hl hp => ?_⟩
  obtain ⟨ss, rfl, s0, s3, hs⟩ := hp
  refine x_seq (x_tupNV (Nat.le_of_ble_eq_true rfl) (n_lst (a_nil ⟨sz rfl, ?_⟩)))
  refine e_sl (e_call (a_cons (e_var rfl (a_cons (e_int (a_nil ⟨rfl, ⟨ss, rfl, s0, s3, hs⟩, ?_⟩))))))
  rintro _ ⟨ss', e, rfl⟩
  have es : ss' = ss := by
    have e1 : ss'.map D.str = ss.map D.str := (D.lst.inj (List.cons.inj e).1).symm
    exact D.tup.inj (show D.tup (ss'.map D.str) = D.tup (ss.map D.str) by rw [e1]) |> fun h => wd_inj (show wd ss' = wd ss by unfold wd; rw [h])
  subst es
  refine o_some (e_int ⟨_, rfl, o_none (o_slL ⟨_, rfl, ?_⟩)⟩)
  rw [show (some (1 : Int)) = some ((1 : Nat) : Int) from rfl, cut_drop]
  have em : (([] :: fndW ss' 3).map wd).drop 1 = (fndW ss' 3).map wd := rfl
  rw [em]
  have ml := fnd3_len s3
  have mg3 := fnd3l hs
  have mnew : ∀ us : List (List Str), us.length < 3 → ∃ k ∈ fndW ss' 3, k ∉ us := fun us hu => fnd3_new (List.getElem_mem s0) hu
  generalize fndW ss' 3 = ms at ml mg3 mnew
  have m0 : 0 < ms.length := by
    obtain ⟨k, hk, _⟩ := mnew [] (by decide)
    exact List.length_pos_of_mem hk
  refine x_seq (x_for (i_rng1 (a_cons (e_op (e_int (e_call (a_cons (e_var rfl (a_cons (e_int (a_nil ⟨rfl, ⟨3, rfl, by decide, by decide⟩, ?_⟩)))))))))))
  rintro _ ⟨_, q, e1, rfl, q0, q3⟩
  cases e1
  obtain ⟨n, rfl⟩ := Int.eq_ofNat_of_zero_le q0
  refine o_I0 ⟨_, _, rfl, rfl, a_nil ⟨_, rfl, by omega, by omega, fun i ρ => ∃ (us : List (List Str)) (a b c d : Sl), ρ = [.va .pot, .va (.lst (ss'.map D.str)), .ow (us.map wd), .va (.lst (ms.map wd)), a, b, c, d] ∧ us.length = i ∧ us.Nodup ∧ ∀ k ∈ us, (gw k ∧ k ≠ []) ∧ ∀ x ∈ k, x ∈ ss', ⟨[], _, _, _, _, rfl, rfl, List.nodup_nil, fun x h => by cases h⟩, ?_, ?_⟩⟩
  · rintro t _ ht ⟨us, a, b, c, d, rfl, hu, und, hg⟩
    have ht : t < 3 := by omega
    refine g_name ?_
    refine x_seq (x_asg (e_call (a_cons (e_var rfl (a_cons (e_cb (a_cons (e_var rfl (a_nil (o_lenK ⟨_, ms.length, rfl, congrArg some (List.length_map ..), ?_⟩))))))))))
    refine a_nil ⟨rfl, ⟨_, rfl, by omega, by omega⟩, ?_⟩
    rintro _ ⟨_, q2, e2, rfl, q20, q21⟩
    cases e2
    obtain ⟨m, rfl⟩ := Int.eq_ofNat_of_zero_le q20
    refine g_name ?_
    refine x_seq (x_asg (e_op (e_sl (e_var rfl (o_some (e_var rfl ⟨_, rfl, o_none (o_slL ⟨_, rfl, ?_⟩)⟩))))))
    refine e_sl (e_var rfl (o_none (o_some (e_var rfl ⟨_, rfl, o_slL ⟨_, rfl, ?_⟩⟩))))
    rw [cut_take, cut_drop, ← List.map_drop, ← List.map_take]
    have lt : (ms.drop m ++ ms.take m).length = ms.length := by
      rw [List.length_append, List.length_drop, List.length_take]
      omega
    refine o_cat ⟨_, _, rfl, rfl, ?_, g_name ?_⟩
    · rw [List.length_map, List.length_map, ← List.length_append, lt]
      exact szl (by omega)
    rw [← List.map_append]
    have tm : ∀ k, k ∈ ms.drop m ++ ms.take m ↔ k ∈ ms := fun k => by
      rw [List.mem_append, Or.comm, ← List.mem_append, List.take_append_drop]
    generalize ms.drop m ++ ms.take m = ts at lt tm
    refine x_appendT rfl (by rw [List.length_map]; exact Nat.lt_of_lt_of_le (show us.length < 100 by omega) (sz rfl)) ?_
    refine e_op (e_lcIf rfl (i_list (e_var rfl ⟨_, rfl, ?_, fun i => wd (ts.getD i []), fun i => !decide (ts.getD i [] ∈ us), ?_, ?_⟩)))
    · rw [List.length_map]
      omega
    · rintro i hi _ rfl
      rw [List.length_map] at hi
      have eg : (ts.map wd).getD i .non = wd (ts.getD i []) := by rw [getWs hi, getDe hi]
      have gk := (mg3 _ ((tm _).mp (List.getElem_mem hi))).1.1
      rw [← getDe (x := []) hi] at gk
      dsimp only
      rw [eg]
      exact t_test (e_op (e_var (at_slot rfl) (e_var rfl (o_notInW (gw_ok gk) (fun k hk => gw_ok (hg k hk).1.1) ⟨_, rfl, rfl, fun _ => e_var (at_slot rfl) rfl⟩))))
    rw [List.length_map, range_filter ([] : List Str) (fun y => !decide (y ∈ us)) wd ts]
    have ne : ts.filter (fun y => !decide (y ∈ us)) ≠ [] := by
      obtain ⟨k, h1, h2⟩ := mnew us (by omega)
      exact List.ne_nil_of_mem (List.mem_filter.mpr ⟨(tm k).mpr h1, by simpa using h2⟩)
    obtain ⟨k, hk, ha⟩ := head_of ne
    obtain ⟨k1, k2⟩ := List.mem_filter.mp hk
    have gk := mg3 k ((tm k).mp k1)
    refine e_int (o_ixL ⟨_, _, wd k, rfl, rfl, by rw [atI_map, ha]; rfl, ?_, us ++ [k], _, _, _, _, by rw [List.map_append]; rfl, by rw [List.length_append, hu]; rfl, ?_, fun u hu => ?_⟩)
    · show (k.map D.str).all flat = true
      rw [List.all_map, List.all_eq_true]
      exact fun _ _ => rfl
    · refine List.nodup_append.mpr ⟨und, by simp, fun a hua b hb e => ?_⟩
      rw [List.mem_singleton.mp hb] at e
      subst e
      simp at k2
      exact k2 hua
    · rcases List.mem_append.mp hu with hu | hu
      · exact hg u hu
      · rw [List.mem_singleton.mp hu]
        exact gk
  · rintro _ ⟨us, a, b, c, d, rfl, hu, und, hg⟩
    refine x_ret (e_var rfl fun ss2 e => ?_)
    have e := strs_inj (D.lst.inj (List.cons.inj (List.cons.inj e).2).1)
    subst e
    exact ⟨us, rfl, ⟨und, fun k hk => (hg k hk).1, by omega, by omega⟩, fun k hk => (hg k hk).2⟩
abbrev N_law_saw : List Str := ["_law_pot_here", "_law_tags_here"]
theorem sc_law_saw : FnScope N_law_saw ["_law_pot_here", "_law_tags_here"] (defScope s_law_saw) := ⟨rfl, rfl, rfl, by decide +kernel, rfl, by decide +kernel, by decide +kernel⟩
theorem ok_law_saw (T : Txt P w K mg base Tb) {f : Addr} {fd : FuncData} (Dd : Df K mg "_law_saw" s_law_saw ["_law_pot_here", "_law_tags_here"] f fd) : FnOk P w K mg base CX0 4 f fd ["_law_pot_here", "_law_tags_here"] (spD 2 preSs fun ds d => ∀ ss : List Str, ds = [.pot, .lst (ss.map D.str)] → ∃ a b, d = .tup [a, b] ∧ Right ss a ∧ Right ss b) := by
  obtain ⟨f__law_verses, fd__law_verses, D_law_verses⟩ := T.d__law_verses
  refine okD Dd.F sc_law_saw rfl (fun cdv A outer s H E hr => ?_)
  have nd := sc_law_saw.nd
  refine ⟨_, (pss_one (ps_ret (pe_tup (pa_cons (pe_call (ok_law_verses T D_law_verses) (hr.mono (by decide)) rfl D_law_verses.m D_law_verses.F.kp D_law_verses.b .nil pass0 (pa_cons (pv 0) (pa_cons (pv 1) pa_nil))) (pa_cons (pe_call (ok_law_verses T D_law_verses) (hr.mono (by decide)) rfl D_law_verses.m D_law_verses.F.kp D_law_verses.b .nil pass0 (pa_cons (pv 0) (pa_cons (pv 1) pa_nil))) pa_nil))))), fun z ds hl hp => ?_⟩
  obtain ⟨ss, rfl, hs⟩ := hp
  refine x_ret (e_tup (a_cons (e_call (a_cons (e_var rfl (a_cons (e_var rfl (a_nil ⟨rfl, ⟨ss, rfl, hs⟩, ?_⟩))))))))
  intro a ha
  refine a_cons (e_call (a_cons (e_var rfl (a_cons (e_var rfl (a_nil ⟨rfl, ⟨ss, rfl, hs⟩, ?_⟩))))))
  intro b hb
  exact a_nil ⟨sz rfl, fun ss2 e => ⟨a, b, rfl, ha _ e, hb _ e⟩⟩
end
end K21

set_option Elab.async false
set_option linter.all false
set_option maxRecDepth 100000
set_option pp.maxSteps 120
set_option maxHeartbeats 4000000
/-! K21f: the law's own lists. -/
namespace K21
open PySem PySem.Spec PyProof.Rows L2 PD
def preLn (ds : List D) : Prop := ∃ ws : List (List Str), ds = [.lst (ws.map wd)] ∧ (∀ k ∈ ws, gw k) ∧ ws.length ≤ 40
def postLn (ds : List D) (d : D) : Prop := ∀ ws : List (List Str), ds = [.lst (ws.map wd)] → ∃ os, IsOrd ws os ∧ d = .lst (os.map wd)
def preMx (ds : List D) : Prop := ∃ ws : List (List Str), ds = [.pot, .lst (ws.map wd)] ∧ (∀ k ∈ ws, gw k) ∧ ws.length ≤ 3
def postMx (ds : List D) (d : D) : Prop := ∀ ws : List (List Str), ds = [.pot, .lst (ws.map wd)] → ∃ us, us.Perm ws ∧ SqW d us
def postTi (ds : List D) (d : D) : Prop := ∀ ws : List (List Str), ds = [.lst (ws.map wd)] → ∃ ys, OrdS ws.flatten ys ∧ d = .lst (ys.map D.str)
def preLc (ds : List D) : Prop := ∃ ws : List (List Str), ds = [.lst (ws.map wd)] ∧ (∀ k ∈ ws, gw k) ∧ ws.length ≤ 6
def postLc (ds : List D) (d : D) : Prop := ∀ ws : List (List Str), ds = [.lst (ws.map wd)] → ∃ os, IsOrd (clo ws) os ∧ d = .lst (os.map wd)
def tl1 (k : List Str) : List (List Str) := (List.range k.length).map fun j => k.take (j + 1)
theorem tl1_len {ws : List (List Str)} (g : ∀ k ∈ ws, gw k) : (ws.flatMap tl1).length ≤ 3 * ws.length := by
  induction ws with
  | nil => simp
  | cons k ws ih =>
    have h1 := ih fun l hl => g l (List.mem_cons_of_mem _ hl)
    have h2 := (g k List.mem_cons_self).1
    rw [List.flatMap_cons, List.length_append, List.length_cons]
    unfold tl1
    rw [List.length_map, List.length_range]
    unfold tl1 at h1
    omega
theorem tl1_mem {k l : List Str} : l ∈ tl1 k → l ∈ inits k := fun h => by
  obtain ⟨j, hj, rfl⟩ := List.mem_map.mp h
  exact List.mem_map.mpr ⟨j + 1, List.mem_range.mpr (by have := List.mem_range.mp hj; omega), rfl⟩
theorem tl1_clo {ws : List (List Str)} (k : List Str) : k ∈ [] :: ws.flatMap tl1 ↔ k ∈ clo ws := by
  have ec : clo ws = [] :: ws.flatMap inits := rfl
  rw [ec]
  constructor
  · intro h
    rcases List.mem_cons.mp h with rfl | h
    · exact List.mem_cons_self
    · obtain ⟨l, hl, hk⟩ := List.mem_flatMap.mp h
      exact List.mem_cons_of_mem _ (List.mem_flatMap.mpr ⟨l, hl, tl1_mem hk⟩)
  · intro h
    rcases List.mem_cons.mp h with rfl | h
    · exact List.mem_cons_self
    · obtain ⟨l, hl, hk⟩ := List.mem_flatMap.mp h
      obtain ⟨j, hj, rfl⟩ := List.mem_map.mp hk
      cases j with
      | zero => exact List.mem_cons_self
      | succ j => exact List.mem_cons_of_mem _ (List.mem_flatMap.mpr ⟨l, hl, List.mem_map.mpr ⟨j, List.mem_range.mpr (by have := List.mem_range.mp hj; omega), rfl⟩⟩)
theorem flat_len {ws : List (List Str)} (g : ∀ k ∈ ws, gw k) : ws.flatten.length ≤ 3 * ws.length := by
  induction ws with
  | nil => simp
  | cons k ws ih =>
    have h1 := ih fun l hl => g l (List.mem_cons_of_mem _ hl)
    have h2 := (g k List.mem_cons_self).1
    rw [List.flatten_cons, List.length_append, List.length_cons]
    omega
theorem erase_map {α β : Type} (f : α → β) : ∀ (l : List α) (n : Nat), (l.map f).eraseIdx n = (l.eraseIdx n).map f
  | [], _ => rfl
  | _ :: _, 0 => rfl
  | a :: l, n + 1 => by
    show f a :: (l.map f).eraseIdx n = f a :: (l.eraseIdx n).map f
    rw [erase_map]
theorem erase_perm {α : Type} : ∀ {l : List α} {n : Nat} (h : n < l.length), (l[n] :: l.eraseIdx n).Perm l
  | a :: l, 0, _ => List.Perm.refl _
  | a :: l, n + 1, h => by
    have h' : n < l.length := by simpa using h
    exact (List.Perm.swap a l[n] (l.eraseIdx n)).trans ((erase_perm h').cons a)
theorem subS_len {ks xs : List Str} (nd : ks.Nodup) (h : ∀ x ∈ ks, x ∈ xs) : ks.length ≤ xs.length := nodup_len nd h
section
variable {P : Program} {w : World} {K : PySem.W.Frag} {mg : Str → Option Value} {base : Heap} {Tb : List (Addr × Str)}
abbrev N_law_lined : List Str := ["_law_verses_here", "_law_found", "_law_once", "_law_many", "_law_verse"]
theorem sc_law_lined : FnScope N_law_lined ["_law_verses_here"] (defScope s_law_lined) := ⟨rfl, rfl, rfl, by decide +kernel, rfl, by decide +kernel, by decide +kernel⟩
theorem ok_law_lined (T : Txt P w K mg base Tb) {f : Addr} {fd : FuncData} (Dd : Df K mg "_law_lined" s_law_lined ["_law_verses_here"] f fd) : FnG P w K mg base CX0 1 f fd ["_law_verses_here"] (spD 1 preLn postLn) := by

  refine okDG Dd.F sc_law_lined rfl (fun cdv A outer s H E hgd hr => ?_)
  have nd := sc_law_lined.nd
  refine ⟨_, (pss_cons (ps_par (i := 1) (j := 2) rfl nd rfl rfl (by decide) rfl rfl (pa_cons (pe_lst pa_nil) (pa_cons (pe_callTy (r := rDictT) (call_dictT rfl hr.units) rfl T.n_dict PyProof.Rows.boot_dict (pa_cons (pe_lc (own := [("_law_verse", 4)]) (g := gName 4) (tt := tYes) rfl nd (pi_list (pv 0)) (blkOk_by (N := N_law_lined) (sc := defScope s_law_lined) (by decide +kernel)) (fun _ _ _ _ _ => pg_name (i := 4) nd rfl (Or.inl rfl)) (fun _ _ _ _ _ => pts_nil) (fun _ _ _ _ _ => (pe_tup (pa_cons (pv 4) (pa_cons pe_bl pa_nil))))) pa_nil)) pa_nil)) (by rfl))
    (pss_cons (ps_for PassesOwn.never rfl (pi_range1 rfl T.n_range (pa_cons pe_int pa_nil)) (pg_name (i := 3) nd rfl (Or.inr rfl)) (pss_one (ps_asg (pe_op op_cat (pv 1) (pe_sortKS hgd hr.units rfl T.n_sorted rfl T.n_str (pe_lock (pe_lc (own := [("_law_verse", 4)]) (g := gName 4) rfl nd (pi_keys (pv 2)) (blkOk_by (N := N_law_lined) (sc := defScope s_law_lined) (by decide +kernel)) (fun _ _ _ _ _ => pg_name (i := 4) nd rfl (Or.inl rfl)) (fun _ _ _ _ _ => pts_one (pt_cmpR op_eq (pe_lenK (K := K) rfl rfl T.n_len (pa_cons (pv 4) pa_nil)) (pv 3) (nomark _))) (fun _ _ _ _ _ => (pv 4)))))) (pg_name (i := 1) nd rfl (Or.inl rfl)))))
    (pss_one (ps_ret (pv 1))))), fun z ds hl hp => ?_⟩
  obtain ⟨ws, rfl, hg, h40⟩ := hp
  refine x_seq (x_par (a_cons (e_lst (a_nil ⟨sz rfl, a_cons (e_cb (a_cons (e_lcG rfl (i_list (e_var rfl ⟨_, rfl, ?_, fun i => .tup [wd (ws.getD i []), .bl true], ?_, ?_⟩)))))⟩))))
  · rw [List.length_map]; omega
  · rintro i hi _ rfl
    rw [List.length_map] at hi
    have eg : (ws.map wd).getD i .non = wd (ws.getD i []) := by rw [getWs hi, getDe hi]
    dsimp only
    rw [eg]
    exact e_tup (a_cons (e_var (at_slot rfl) (a_cons (e_bl (a_nil ⟨sz rfl, rfl⟩)))))
  rw [List.length_map, range_map ([] : List Str) (fun k => D.tup [wd k, .bl true]) ws]
  refine a_nil (o_dictT (a_nil ⟨_, _, rfl, ?_⟩))
  have nk : (addU [] ws).Nodup := nodup_addU List.nodup_nil
  have gk : ∀ k ∈ addU [] ws, gw k := fun k hk => by
    rcases mem_addU.mp hk with h | h
    · cases h
    · exact hg k h
  have lk : (addU [] ws).length ≤ 40 := Nat.le_trans len_addU (by simpa using h40)
  refine x_seq (x_for (i_rng1 (a_cons (e_int (a_nil ⟨_, rfl, by decide, by decide, fun i ρ => ∃ (c d : Sl), ρ = [.va (.lst (ws.map wd)), .va (.lst ((lnd ws i).map wd)), .va (.dtk (addU [] ws)), c, d], ⟨_, _, rfl⟩, ?_, ?_⟩)))))
  · rintro i _ hi ⟨c, d, rfl⟩
    have hi : i < 4 := hi
    refine g_name ?_
    refine x_asg (e_op (e_var rfl (e_srtW (e_lcDT (i := 2) (ks := addU [] ws) (W := fun j acc => acc = (((addU [] ws).take j).filter fun k => decide (k.length = i)).map wd) rfl (by omega) rfl ?_ ?_))))
    · rintro j _ hj _ rfl
      have et : (addU [] ws).take (j + 1) = (addU [] ws).take j ++ [(addU [] ws)[j]] := List.take_succ_eq_append_getElem hj
      have eg : (addU [] ws).getD j [] = (addU [] ws)[j] := getDe hj
      rw [eg, et]
      generalize (addU [] ws)[j] = k
      refine ge_name (by simp) (t_test (e_op (e_cb (a_cons (e_var rfl (a_nil (o_lenK ⟨_, k.length, rfl, congrArg some (wd_len k), ?_⟩)))))))
      refine e_var (d := .int (i : Nat)) rfl (o_eqI ⟨_, rfl, ?_⟩)
      rw [List.filter_append, List.map_append]
      by_cases h : k.length = i
      · rw [if_pos (decide_eq_true (by omega))]
        refine e_var rfl ?_
        rw [List.filter_cons_of_pos (by simp [h])]
        rfl
      · rw [if_neg (by simp; omega)]
        rw [List.filter_cons_of_neg (by simp [h])]
        simp
    · rintro _ _ rfl
      rw [List.take_length]
      have gf : ∀ k ∈ (addU [] ws).filter (fun k => decide (k.length = i)), gw k := fun k hk => gk k (List.mem_filter.mp hk).1
      have lf : ((addU [] ws).filter fun k => decide (k.length = i)).length ≤ 40 := Nat.le_trans (List.length_filter_le ..) lk
      refine ⟨_, rfl, by omega, fun k hk => shW_sz (gf k hk), o_cat ⟨_, _, rfl, rfl, ?_, g_name ⟨.va (.int (i : Nat)), d, ?_⟩⟩⟩
      · rw [List.length_map, List.length_map, (srtW_perm _).length_eq]
        have l1 : (lnd ws i).length ≤ ws.length := nodup_len ((⟨lnd_srt hg i, fun _ => Iff.rfl⟩ : IsOrd (lnd ws i) (lnd ws i)).nodup) fun k hk => (lnd_mem.mp hk).1
        exact szl (by omega)
      · rw [← List.map_append, ← lnd_step]
        rfl
  · rintro _ ⟨c, d, rfl⟩
    refine x_ret (e_var rfl fun ws' e => ?_)
    have e := lstW_inj e
    subst e
    exact ⟨_, lnd_ord hg, rfl⟩
abbrev N_law_mixed : List Str := ["_law_pot_here", "_law_some", "_law_pack", "_law_found"]
theorem sc_law_mixed : FnScope N_law_mixed ["_law_pot_here", "_law_some"] (defScope s_law_mixed) := ⟨rfl, rfl, rfl, by decide +kernel, rfl, by decide +kernel, by decide +kernel⟩
theorem ok_law_mixed (T : Txt P w K mg base Tb) {f : Addr} {fd : FuncData} (Dd : Df K mg "_law_mixed" s_law_mixed ["_law_pot_here", "_law_some"] f fd) : FnOk P w K mg base CX0 2 f fd ["_law_pot_here", "_law_some"] (spD 2 preMx postMx) := by
  obtain ⟨f__law_draw, fd__law_draw, D_law_draw⟩ := T.d__law_draw
  refine okD Dd.F sc_law_mixed rfl (fun cdv A outer s H E hr => ?_)
  have nd := sc_law_mixed.nd
  refine ⟨_, (pss_cons (ps_par (i := 2) (j := 3) rfl nd rfl rfl (by decide) rfl rfl (pa_cons (pe_callTy call_list_of rfl T.n_list PyProof.Rows.boot_list (pa_cons (pv 1) pa_nil)) (pa_cons (pe_lst pa_nil) pa_nil)) (by rfl))
    (pss_cons (ps_while PassesOwn.never (pt_cmpR (r := rNeD K) (op_neD hr.units) (pv 2) (pe_lst pa_nil) (nomark _)) (pss_one (ps_expr (pe_bm PySem.F.plainAttrs_list PySem.F.slot_list_append PySem.F.type_list_append mt_append (pv 3) (pa_cons (pe_bm PySem.F.plainAttrs_list PySem.F.slot_list_pop PySem.F.type_list_pop mt_popAt (pv 2) (pa_cons (pe_call (ok_law_draw T D_law_draw) (hr.mono (by decide)) rfl D_law_draw.m D_law_draw.F.kp D_law_draw.b .nil pass0 (pa_cons (pv 0) (pa_cons (pe_lenK (K := K) rfl rfl T.n_len (pa_cons (pv 2) pa_nil)) pa_nil))) pa_nil)) pa_nil)))))
    (pss_one (ps_ret (pe_ifExp (pt_cmpR op_eq (pe_call (ok_law_draw T D_law_draw) (hr.mono (by decide)) rfl D_law_draw.m D_law_draw.F.kp D_law_draw.b .nil pass0 (pa_cons (pv 0) (pa_cons pe_int pa_nil))) pe_int (nomark _)) (pv 3) (pe_tupleOf rfl T.n_tuple (pv 3))))))), fun z ds hl hp => ?_⟩
  obtain ⟨ws, rfl, hg, h3⟩ := hp
  refine x_seq (x_parNN (Nat.le_of_ble_eq_true rfl) (Nat.le_of_ble_eq_true rfl) (n_listOf (a_cons (e_var rfl (a_nil ⟨_, .inl rfl, n_lst (a_nil ⟨sz rfl, ?_⟩)⟩)))))
  refine x_seq (x_while ⟨fun m ρ => ∃ us vs : List (List Str), ρ = [.va .pot, .va (.lst (ws.map wd)), .ow (us.map wd), .ow (vs.map wd)] ∧ (vs ++ us).Perm ws ∧ m = us.length, ⟨_, ws, [], rfl, List.Perm.refl _, rfl⟩, ?_⟩)
  rintro m _ ⟨us, vs, rfl, pm, rfl⟩
  have gus : ∀ k ∈ vs ++ us, gw k := fun k hk => hg k (pm.mem_iff.mp hk)
  have lus := pm.length_eq
  rw [List.length_append] at lus
  refine t_test (e_op (e_var rfl (e_lst (a_nil ⟨sz rfl, o_neWs (l := []) (fun k hk => gw_ok (gus k (List.mem_append_right _ hk))) (fun k hk => by cases hk) ⟨_, rfl, iteB (fun h => ?_) (fun h => ?_)⟩⟩))))
  · have hn : us ≠ [] := by simpa using h
    have h0 := List.length_pos_iff.mpr hn
    refine x_appendPop (i := 3) (j := 2) (by decide) rfl rfl (by rw [List.length_map]; exact Nat.lt_of_lt_of_le (show vs.length < 100 by omega) (sz rfl)) ?_
    refine e_call (a_cons (e_var rfl (a_cons (e_cb (a_cons (e_var rfl (a_nil (o_lenK ⟨_, us.length, rfl, congrArg some (List.length_map ..), ?_⟩))))))))
    refine a_nil ⟨rfl, ⟨_, rfl, by omega, by omega⟩, ?_⟩
    rintro _ ⟨_, q2, e2, rfl, q20, q21⟩
    cases e2
    obtain ⟨n, rfl⟩ := Int.eq_ofNat_of_zero_le q20
    have hn2 : n < us.length := by omega
    refine ⟨n, wd us[n], rfl, by omega, by rw [List.getElem?_map, List.getElem?_eq_getElem hn2]; rfl, _, ?_, us.eraseIdx n, vs ++ [us[n]], ?_, ?_, rfl⟩
    · rw [List.length_eraseIdx_of_lt hn2]
      omega
    · rw [erase_map, List.map_append]
      rfl
    · rw [List.append_assoc]
      exact (List.Perm.append_left vs (erase_perm hn2)).trans pm
  · have hn : us = [] := by simpa using h
    subst hn
    rw [List.append_nil] at pm
    refine x_ret (e_if (t_test (e_op (e_call (a_cons (e_var rfl (a_cons (e_int (a_nil ⟨rfl, ⟨2, rfl, by decide, by decide⟩, ?_⟩)))))))))
    rintro _ ⟨_, q, e1, rfl, q0, q1⟩
    have fin : ∀ d, SqW d vs → postMx [.pot, .lst (ws.map wd)] d := fun d hd ws' e => by
      have e := wds_inj (D.lst.inj (List.cons.inj (List.cons.inj e).2).1)
      subst e
      exact ⟨vs, pm, hd⟩
    exact e_int (o_eqI ⟨_, rfl, iteB (fun _ => e_var rfl (fin _ (.inl rfl))) (fun _ => e_tupOf (e_var rfl ⟨_, .inl rfl, fin _ (.inr rfl)⟩))⟩)
abbrev N_law_tags_in : List Str := ["_law_verses_here", "_law_once", "_law_verse", "_law_tag"]
theorem sc_law_tags_in : FnScope N_law_tags_in ["_law_verses_here"] (defScope s_law_tags_in) := ⟨rfl, rfl, rfl, by decide +kernel, rfl, by decide +kernel, by decide +kernel⟩
theorem ok_law_tags_in (T : Txt P w K mg base Tb) {f : Addr} {fd : FuncData} (Dd : Df K mg "_law_tags_in" s_law_tags_in ["_law_verses_here"] f fd) : FnG P w K mg base CX0 1 f fd ["_law_verses_here"] (spD 1 preLc postTi) := by

  refine okDG Dd.F sc_law_tags_in rfl (fun cdv A outer s H E hgd hr => ?_)
  have nd := sc_law_tags_in.nd
  refine ⟨_, (pss_cons (ps_asg pe_dnewK (pg_name (i := 1) nd rfl (Or.inl rfl)))
    (pss_cons (ps_for PassesOwn.never rfl (pi_list (pv 0)) (pg_name (i := 2) nd rfl (Or.inl rfl)) (pss_one (ps_expr (pe_bm PySem.F.plainAttrs_dict PySem.F.slot_dict_update PySem.F.type_dict_update mt_updD (pv 1) (pa_cons (pe_callTy (r := rDictP K) (call_dictP rfl) rfl T.n_dict PyProof.Rows.boot_dict (pa_cons (pe_lc (own := [("_law_tag", 3)]) (g := gName 3) (tt := tYes) rfl nd (pi_tup (pv 2)) (blkOk_by (N := N_law_tags_in) (sc := defScope s_law_tags_in) (by decide +kernel)) (fun _ _ _ _ _ => pg_name (i := 3) nd rfl (Or.inl rfl)) (fun _ _ _ _ _ => pts_nil) (fun _ _ _ _ _ => (pe_tup (pa_cons (pv 3) (pa_cons pe_bl pa_nil))))) pa_nil)) pa_nil)))))
    (pss_one (ps_ret (pe_sortKS hgd hr.units rfl T.n_sorted rfl T.n_str (pe_callTy (r := rListD) (call_list_dK rfl) rfl T.n_list PyProof.Rows.boot_list (pa_cons (pv 1) pa_nil))))))), fun z ds hl hp => ?_⟩
  obtain ⟨ws, rfl, hg, h6⟩ := hp
  refine x_seq (x_ownD (Nat.le_of_ble_eq_true rfl) ?_)
  refine x_seq (x_for (i_list (e_var rfl ⟨_, rfl, fun i ρ => ∃ (ks : List Str) (c d : Sl), ρ = [.va (.lst (ws.map wd)), .od ks, c, d] ∧ ks.Nodup ∧ ∀ x, x ∈ ks ↔ x ∈ (ws.take i).flatten, ⟨[], _, _, rfl, List.nodup_nil, fun x => by simp⟩, ?_, ?_⟩)))
  · rintro i _ hi ⟨ks, c, d, rfl, nk, mk⟩
    rw [List.length_map] at hi
    refine g_eq (d' := wd ws[i]) (getWs hi) (g_name ?_)
    have hk := hg _ (List.getElem_mem hi)
    have et : ws.take (i + 1) = ws.take i ++ [ws[i]] := List.take_succ_eq_append_getElem hi
    generalize ws[i] = k at hk et
    have h3 := hk.1
    refine x_updD rfl (e_cb (a_cons (e_lcG rfl (i_tup (e_var rfl ⟨k.map D.str, rfl, ?_, fun j => .tup [.str (k.getD j ""), .bl true], ?_, ?_⟩)))))
    · rw [List.length_map]; omega
    · rintro j hj _ rfl
      rw [List.length_map] at hj
      have eg : (k.map D.str).getD j .non = .str (k.getD j "") := by rw [getW hj, getDe hj]
      dsimp only
      rw [eg]
      exact e_tup (a_cons (e_var (at_slot rfl) (a_cons (e_bl (a_nil ⟨sz rfl, rfl⟩)))))
    rw [List.length_map, range_map ("" : Str) (fun x => D.tup [.str x, .bl true]) k]
    have ep : (k.map fun x => D.tup [.str x, .bl true]) = PD.prD (k.map fun x => (x, .bl true)) := by
      unfold PD.prD
      rw [List.map_map]
      rfl
    rw [ep]
    have lf := flat_len (ws := ws.take i) fun l hl => hg l (List.mem_of_mem_take hl)
    have lt : (ws.take i).length ≤ 6 := by rw [List.length_take]; omega
    have l1 := subS_len nk fun x hx => (mk x).mp hx
    have l2 : (addU [] k).length ≤ k.length := by simpa using len_addU (acc := []) (ks := k)
    refine a_nil (o_dictTr ⟨_, rfl, by omega, _, _, _, rfl, nodup_addU nk, fun x => ?_⟩)
    rw [mem_addU, mem_addU, mk, et, List.flatten_append, List.mem_append]
    simp
  · rintro _ ⟨ks, c, d, rfl, nk, mk⟩
    rw [List.length_map, List.take_length] at mk
    have lf := flat_len hg
    have l1 := subS_len nk fun x hx => (mk x).mp hx
    refine x_ret (e_srtS (e_cb (a_cons (e_var rfl (a_nil (o_listD ⟨_, rfl, by omega, fun ws' e => ?_⟩))))))
    have e := lstW_inj e
    subst e
    have o := srtS_ord nk
    exact ⟨_, ⟨o.srt, fun x => (o.mem x).trans (mk x)⟩, rfl⟩
abbrev N_law_closed : List Str := ["_law_verses_here", "_law_found", "_law_verse", "_law_many"]
theorem sc_law_closed : FnScope N_law_closed ["_law_verses_here"] (defScope s_law_closed) := ⟨rfl, rfl, rfl, by decide +kernel, rfl, by decide +kernel, by decide +kernel⟩
theorem ok_law_closed (T : Txt P w K mg base Tb) {f : Addr} {fd : FuncData} (Dd : Df K mg "_law_closed" s_law_closed ["_law_verses_here"] f fd) : FnG P w K mg base CX0 2 f fd ["_law_verses_here"] (spD 1 preLc postLc) := by
  obtain ⟨f__law_lined, fd__law_lined, D_law_lined⟩ := T.d__law_lined
  refine okDG Dd.F sc_law_closed rfl (fun cdv A outer s H E hgd hr => ?_)
  have nd := sc_law_closed.nd
  refine ⟨_, (pss_cons (ps_asg (pe_lst (pa_cons (pe_tup pa_nil) pa_nil)) (pg_name (i := 1) nd rfl (Or.inl rfl)))
    (pss_cons (ps_for PassesOwn.never rfl (pi_list (pv 0)) (pg_name (i := 2) nd rfl (Or.inr rfl)) (pss_one (ps_asg (pe_op op_cat (pv 1) (pe_lc (own := [("_law_many", 3)]) (g := gName 3) (tt := tYes) rfl nd (pi_range2 rfl T.n_range (pa_cons pe_int (pa_cons (pe_op op_add (pe_lenK (K := K) rfl rfl T.n_len (pa_cons (pv 2) pa_nil)) pe_int) pa_nil))) (blkOk_by (N := N_law_closed) (sc := defScope s_law_closed) (by decide +kernel)) (fun _ _ _ _ _ => pg_name (i := 3) nd rfl (Or.inl rfl)) (fun _ _ _ _ _ => pts_nil) (fun _ _ _ _ _ => (pe_slice (r := rSlA K) sl_tupA (pv 2) po_none (po_some (pv 3)))))) (pg_name (i := 1) nd rfl (Or.inl rfl)))))
    (pss_one (ps_ret (pe_callG (ok_law_lined T D_law_lined) hgd (hr.mono (by decide)) rfl D_law_lined.m D_law_lined.F.kp D_law_lined.b .nil pass0 (pa_cons (pv 1) pa_nil)))))), fun z ds hl hp => ?_⟩
  obtain ⟨ws, rfl, hg, h6⟩ := hp
  refine x_seq (x_asg (e_lst (a_cons (e_tup (a_nil ⟨sz rfl, a_nil ⟨sz rfl, g_name ?_⟩⟩)))))
  refine x_seq (x_for (i_list (e_var rfl ⟨_, rfl, fun i ρ => ∃ (c d : Sl), ρ = [.va (.lst (ws.map wd)), .va (.lst (([] :: (ws.take i).flatMap tl1).map wd)), c, d], ⟨_, _, rfl⟩, ?_, ?_⟩)))
  · rintro i _ hi ⟨c, d, rfl⟩
    rw [List.length_map] at hi
    refine g_eq (d' := wd ws[i]) (getWs hi) (g_name ?_)
    have hk := hg _ (List.getElem_mem hi)
    have et : ws.take (i + 1) = ws.take i ++ [ws[i]] := List.take_succ_eq_append_getElem hi
    generalize ws[i] = k at hk et
    have h3 := hk.1
    have lf := tl1_len (ws := ws.take i) fun l hl => hg l (List.mem_of_mem_take hl)
    have lt : (ws.take i).length ≤ 6 := by rw [List.length_take]; omega
    refine x_asg (e_op (e_var rfl (e_lcG rfl (i_rng2 (a_cons (e_int (a_cons (e_op (e_cb (a_cons (e_var rfl (a_nil (o_lenK ⟨_, k.length, rfl, congrArg some (wd_len k), ?_⟩)))))))))))))
    refine e_int (o_I0 ⟨_, _, rfl, rfl, a_nil ⟨_, _, rfl, ⟨by omega, by omega, by omega, by omega⟩, by omega, fun j => wd (k.take (j + 1)), ?_, ?_⟩⟩)
    · rintro j hj _ rfl
      refine e_sl (e_var rfl (o_none (o_some (e_var (at_slot rfl) ⟨_, rfl, o_slT ⟨_, rfl, ?_⟩⟩))))
      rw [show (1 : Int) + (j : Int) = ((j + 1 : Nat) : Int) by omega, cut_take, ← List.map_take]
      rfl
    rw [show (((k.length : Nat) : Int) + 1 - 1).toNat = k.length by omega]
    have e1 : (List.range k.length).map (fun j => wd (k.take (j + 1))) = (tl1 k).map wd := by
      unfold tl1
      rw [List.map_map]
      rfl
    rw [e1]
    refine o_cat ⟨_, _, rfl, rfl, ?_, g_name ⟨.va (wd k), d, ?_⟩⟩
    · rw [List.length_map, List.length_map, List.length_cons]
      unfold tl1 at *
      rw [List.length_map, List.length_range]
      exact szl (by omega)
    · rw [et, List.flatMap_append, ← List.map_append]
      simp
  · rintro _ ⟨c, d, rfl⟩
    rw [List.length_map, List.take_length]
    have lf := tl1_len hg
    have gc : ∀ k ∈ [] :: ws.flatMap tl1, gw k := fun k hk => clo_gw hg k ((tl1_clo k).mp hk)
    refine x_ret (e_call (a_cons (e_var rfl (a_nil ⟨rfl, ⟨_, rfl, gc, by rw [List.length_cons]; omega⟩, fun d h ws' e => ?_⟩))))
    have e := lstW_inj e
    subst e
    obtain ⟨os, io, rfl⟩ := h _ rfl
    exact ⟨os, io.congr tl1_clo, rfl⟩
end
end K21

set_option Elab.async false
set_option linter.all false
set_option maxRecDepth 100000
set_option pp.maxSteps 120
set_option maxHeartbeats 4000000
/-! K21g: a saying with one word otherwise. -/
namespace K21
open PySem PySem.Spec PyProof.Rows L2 PD
def NearOf (S V : List (List Str)) : Prop := Tw V ∧ ¬ ∀ k, k ∈ V ↔ k ∈ S
theorem set_perm {α : Type} {m : α} : ∀ {l : List α} {j : Nat}, j < l.length → (l.set j m).Perm (m :: l.eraseIdx j)
  | a :: l, 0, _ => List.Perm.refl _
  | a :: l, j + 1, h => by
    have h' : j < l.length := by simpa using h
    exact ((set_perm h').cons a).trans (List.Perm.swap m a (l.eraseIdx j))
theorem near_set {S : List (List Str)} {m : List Str} {j : Nat} (hS : Tw S) (hj : j < S.length) (gm : gw m ∧ m ≠ []) (nm : m ∉ S) : NearOf S (S.set j m) := by
  have pm := set_perm (m := m) hj
  have sub : ∀ k ∈ S.eraseIdx j, k ∈ S := fun k hk => (List.eraseIdx_sublist ..).subset hk
  refine ⟨⟨pm.nodup_iff.mpr (List.nodup_cons.mpr ⟨fun h => nm (sub m h), hS.1.sublist (List.eraseIdx_sublist ..)⟩), fun k hk => ?_, ?_, ?_⟩, fun h => nm ((h m).mp (pm.mem_iff.mpr List.mem_cons_self))⟩
  · rcases List.mem_cons.mp (pm.mem_iff.mp hk) with rfl | hk
    · exact gm
    · exact hS.2.1 k (sub k hk)
  · rw [List.length_set]; exact hS.2.2.1
  · rw [List.length_set]; exact hS.2.2.2
theorem near_drop {S : List (List Str)} (hS : Tw S) (h : 1 < S.length) : NearOf S (S.drop 1) := by
  obtain ⟨nd, hg, l1, l3⟩ := hS
  match S, nd, hg, l1, l3, h with
  | [], _, _, _, _, h => simp at h
  | a :: S, nd, hg, l1, l3, h =>
    have nd := List.nodup_cons.mp nd
    refine ⟨⟨nd.2, fun k hk => hg k (List.mem_cons_of_mem _ hk), ?_, ?_⟩, fun q => nd.1 ((q a).mpr List.mem_cons_self)⟩
    · simp at h ⊢; omega
    · simp at l3 ⊢; omega
theorem near_snoc {S : List (List Str)} {b : List Str} (hS : Tw S) (h : S.length < 3) (gb : gw b ∧ b ≠ []) (nb : b ∉ S) : NearOf S (S ++ [b]) := by
  refine ⟨⟨List.nodup_append.mpr ⟨hS.1, by simp, fun x hx y hy e => ?_⟩, fun k hk => ?_, ?_, ?_⟩, fun q => nb ((q b).mp (by simp))⟩
  · rw [List.mem_singleton] at hy
    exact nb (by rw [← hy, ← e]; exact hx)
  · rcases List.mem_append.mp hk with hk | hk
    · exact hS.2.1 k hk
    · rw [List.mem_singleton.mp hk]; exact gb
  · rw [List.length_append]; have := hS.2.2.1; omega
  · rw [List.length_append, List.length_singleton]; omega
def preNr (ds : List D) : Prop := ∃ (ss : List Str) (ws us : List (List Str)), ds = [.pot, .lst (ss.map D.str), .tup [.lst (ws.map wd), .lst (us.map wd)]] ∧ okSs ss ∧ (∀ x ∈ ss, x.length ≤ 7) ∧ Tw ws ∧ Tw us ∧ (∀ k ∈ ws, ∀ x ∈ k, x ∈ ss) ∧ ∀ k ∈ us, ∀ x ∈ k, x ∈ ss
def postNr (ds : List D) (d : D) : Prop := ∀ (e : D) (ws us : List (List Str)), ds = [.pot, e, .tup [.lst (ws.map wd), .lst (us.map wd)]] → ∃ vs ts, d = .tup [.lst (vs.map wd), .lst (ts.map wd)] ∧ Tw vs ∧ Tw ts ∧ ¬ ((∀ k, k ∈ vs ↔ k ∈ ws) ∧ ∀ k, k ∈ ts ↔ k ∈ us)
def zz8 : Str := "zzzzzzzz"
theorem zz8_sgn : sgn zz8 = true := by decide +kernel
theorem zz8_len : zz8.length = 8 := by decide +kernel
theorem flat2_wd (k : List Str) : flat2 (wd k) = true := by
  show (k.map D.str).all flat = true
  rw [List.all_map, List.all_eq_true]
  exact fun _ _ => rfl
section
variable {P : Program} {w : World} {K : PySem.W.Frag} {mg : Str → Option Value} {base : Heap} {Tb : List (Addr × Str)}
abbrev N_law_near : List Str := ["_law_pot_here", "_law_tags_here", "_law_saw_here", "_law_side", "_law_verses_here", "_law_menu", "_law_begun", "_law_verse"]
theorem sc_law_near : FnScope N_law_near ["_law_pot_here", "_law_tags_here", "_law_saw_here"] (defScope s_law_near) := ⟨rfl, rfl, rfl, by decide +kernel, rfl, by decide +kernel, by decide +kernel⟩
theorem ok_law_near (T : Txt P w K mg base Tb) {f : Addr} {fd : FuncData} (Dd : Df K mg "_law_near" s_law_near ["_law_pot_here", "_law_tags_here", "_law_saw_here"] f fd) : FnOk P w K mg base CX0 3 f fd ["_law_pot_here", "_law_tags_here", "_law_saw_here"] (spD 3 preNr postNr) := by
  obtain ⟨f__law_draw, fd__law_draw, D_law_draw⟩ := T.d__law_draw
  obtain ⟨f__law_pick, fd__law_pick, D_law_pick⟩ := T.d__law_pick
  obtain ⟨f__law_all, fd__law_all, D_law_all⟩ := T.d__law_all
  refine okD Dd.F sc_law_near rfl (fun cdv A outer s H E hr => ?_)
  have nd := sc_law_near.nd
  refine ⟨_, (pss_cons (ps_asg (pe_call (ok_law_draw T D_law_draw) (hr.mono (by decide)) rfl D_law_draw.m D_law_draw.F.kp D_law_draw.b .nil pass0 (pa_cons (pv 0) (pa_cons pe_int pa_nil))) (pg_name (i := 3) nd rfl (Or.inr rfl)))
    (pss_cons (ps_asg (pe_callTy call_list_of rfl T.n_list PyProof.Rows.boot_list (pa_cons (pe_ix (r := rIxT K) ix_tup (pv 2) (pv 3) (by intro _ _; rfl)) pa_nil)) (pg_name (i := 4) nd rfl (Or.inr rfl)))
    (pss_cons (ps_asg (pe_op op_cat (pe_lc (own := [("_law_verse", 7)]) (g := gName 7) rfl nd (pi_list (pe_slice (r := rSlL K) sl_list (pe_call (ok_law_all T D_law_all) (hr.mono (by decide)) rfl D_law_all.m D_law_all.F.kp D_law_all.b .nil pass0 (pa_cons (pv 1) (pa_cons pe_int pa_nil))) (po_some pe_int) po_none)) (blkOk_by (N := N_law_near) (sc := defScope s_law_near) (by decide +kernel)) (fun _ _ _ _ _ => pg_name (i := 7) nd rfl (Or.inl rfl)) (fun _ _ _ _ _ => pts_one (pt_cmpR (r := rNotInD K) (op_notInD (units65 hr)) (pv 7) (pv 4) (by with_unfolding_all rfl))) (fun _ _ _ _ _ => (pv 7))) (pe_lst (pa_cons (pe_tup (pa_cons pe_str pa_nil)) pa_nil))) (pg_name (i := 5) nd rfl (Or.inl rfl)))
    (pss_cons (ps_asg (pe_call (ok_law_pick T D_law_pick) (hr.mono (by decide)) rfl D_law_pick.m D_law_pick.F.kp D_law_pick.b .nil pass0 (pa_cons (pv 0) (pa_cons (pv 5) pa_nil))) (pg_sub (pv 4) (pe_call (ok_law_draw T D_law_draw) (hr.mono (by decide)) rfl D_law_draw.m D_law_draw.F.kp D_law_draw.b .nil pass0 (pa_cons (pv 0) (pa_cons (pe_lenK (K := K) rfl rfl T.n_len (pa_cons (pv 4) pa_nil)) pa_nil))) set_list))
    (pss_cons (ps_if (PW.pt (pw_and (pt_cmpR op_eq (pe_call (ok_law_draw T D_law_draw) (hr.mono (by decide)) rfl D_law_draw.m D_law_draw.F.kp D_law_draw.b .nil pass0 (pa_cons (pv 0) (pa_cons pe_int pa_nil))) pe_int (nomark _)) (pw_and1 (pt_cmpR op_gt (pe_lenK (K := K) rfl rfl T.n_len (pa_cons (pv 4) pa_nil)) pe_int (nomark _))))) (pss_one (ps_asg (pe_slice (r := rSlL K) sl_list (pe_callTy call_list_of rfl T.n_list PyProof.Rows.boot_list (pa_cons (pe_ix (r := rIxT K) ix_tup (pv 2) (pv 3) (by intro _ _; rfl)) pa_nil)) (po_some pe_int) po_none) (pg_name (i := 4) nd rfl (Or.inr rfl)))) pss_nil)
    (pss_cons (ps_setLc (i := 6) (own := [("_law_verse", 7)]) (g := gName 7) (by rfl) nd rfl rfl (sw_true rfl rfl rfl (by decide +kernel)) (pi_list (pe_ix (r := rIxT K) ix_tup (pv 2) (pv 3) (by intro _ _; rfl))) (blkOk_by (N := N_law_near) (sc := defScope s_law_near) (by decide +kernel)) (fun _ _ _ _ _ => pg_name (i := 7) nd rfl (Or.inl rfl)) (fun _ _ _ _ _ => pts_one (PW.pt (pw_and (pt_cmpR op_gt (pe_lenK (K := K) rfl rfl T.n_len (pa_cons (pv 7) pa_nil)) pe_int (nomark _)) (pw_and1 (pt_cmpR (r := rNotInD K) (op_notInD (units65 hr)) (pe_slice (r := rSlA K) sl_tupA (pv 7) po_none (po_some pe_int)) (pe_ix (r := rIxT K) ix_tup (pv 2) (pv 3) (by intro _ _; rfl)) (by with_unfolding_all rfl)))))) (fun _ _ _ _ _ => (pe_slice (r := rSlA K) sl_tupA (pv 7) po_none (po_some pe_int))))
    (pss_cons (ps_if (PW.pt (pw_and (pt_cmpR op_eq (pe_call (ok_law_draw T D_law_draw) (hr.mono (by decide)) rfl D_law_draw.m D_law_draw.F.kp D_law_draw.b .nil pass0 (pa_cons (pv 0) (pa_cons pe_int pa_nil))) pe_int (nomark _)) (pw_and (pt_cmpR op_lt (pe_lenK (K := K) rfl rfl T.n_len (pa_cons (pe_ix (r := rIxT K) ix_tup (pv 2) (pv 3) (by intro _ _; rfl)) pa_nil)) pe_int (nomark _)) (pw_and1 (pt_cmpR (r := rNeD K) (op_neD hr.units) (pv 6) (pe_lst pa_nil) (nomark _)))))) (pss_one (ps_asg (pe_op op_cat (pe_callTy call_list_of rfl T.n_list PyProof.Rows.boot_list (pa_cons (pe_ix (r := rIxT K) ix_tup (pv 2) (pv 3) (by intro _ _; rfl)) pa_nil)) (pe_slice (r := rSlL K) sl_list (pv 6) po_none (po_some pe_int))) (pg_name (i := 4) nd rfl (Or.inr rfl)))) pss_nil)
    (pss_one (ps_ret (pe_ifExp (pt_cmpR op_eq (pv 3) pe_int (nomark _)) (pe_tup (pa_cons (pv 4) (pa_cons (pe_ix (r := rIxT K) ix_tup (pv 2) pe_int (by intro _ _; rfl)) pa_nil))) (pe_tup (pa_cons (pe_ix (r := rIxT K) ix_tup (pv 2) pe_int (by intro _ _; rfl)) (pa_cons (pv 4) pa_nil))))))))))))), fun z ds hl hp => ?_⟩
  obtain ⟨ss, ws, us, rfl, hs, h7, tw, tu, lw, lu⟩ := hp
  refine x_seq (x_asg (e_call (a_cons (e_var rfl (a_cons (e_int (a_nil ⟨rfl, ⟨2, rfl, by decide, by decide⟩, ?_⟩)))))))
  rintro _ ⟨_, sd, e1, rfl, s0, s1⟩
  cases e1
  refine g_name ?_
  have hS : ∃ S, atI [D.lst (ws.map wd), .lst (us.map wd)] sd = some (.lst (S.map wd)) ∧ Tw S ∧ (∀ k ∈ S, ∀ x ∈ k, x ∈ ss) ∧ ∀ V, NearOf S V → (sd = 0 → postNr [.pot, .lst (ss.map D.str), .tup [.lst (ws.map wd), .lst (us.map wd)]] (.tup [.lst (V.map wd), .lst (us.map wd)])) ∧ (sd ≠ 0 → postNr [.pot, .lst (ss.map D.str), .tup [.lst (ws.map wd), .lst (us.map wd)]] (.tup [.lst (ws.map wd), .lst (V.map wd)])) := by
    have two : ∀ {e : D} {xs ys : List (List Str)}, [D.pot, .lst (ss.map D.str), .tup [.lst (ws.map wd), .lst (us.map wd)]] = [.pot, e, .tup [.lst (xs.map wd), .lst (ys.map wd)]] → ws = xs ∧ us = ys := fun h => by
      have h := D.tup.inj (List.cons.inj (List.cons.inj (List.cons.inj h).2).2).1
      obtain ⟨h1, h2⟩ := List.cons.inj h
      exact ⟨wds_inj (D.lst.inj h1), wds_inj (D.lst.inj (List.cons.inj h2).1)⟩
    rcases (by omega : sd = 0 ∨ sd = 1) with rfl | rfl
    · refine ⟨ws, rfl, tw, lw, fun V hV => ⟨fun _ e xs ys h => ?_, fun h => absurd rfl h⟩⟩
      obtain ⟨rfl, rfl⟩ := two h
      exact ⟨V, us, rfl, hV.1, tu, fun q => hV.2 q.1⟩
    · refine ⟨us, rfl, tu, lu, fun V hV => ⟨fun h => by simp at h, fun _ e xs ys h => ?_⟩⟩
      obtain ⟨rfl, rfl⟩ := two h
      exact ⟨ws, V, rfl, tw, hV.1, fun q => hV.2 q.2⟩
  obtain ⟨S, hat, tS, lS, fin⟩ := hS
  have sv : ∀ {ρ : List (Option D)} {PP : D → Prop}, ρ[2]? = some (some (.tup [.lst (ws.map wd), .lst (us.map wd)])) → ρ[3]? = some (some (.int sd)) → PP (.lst (S.map wd)) → E1 z (tOp (rIxT K) (tVar 2) (tVar 3)) ρ PP := fun h1 h2 q => e_op (e_var h1 (e_var h2 (o_ixT ⟨_, _, _, rfl, rfl, hat, q⟩)))
  have l1 := tS.2.2.1
  have l3 := tS.2.2.2
  refine x_seq (x_ownN (Nat.le_of_ble_eq_true rfl) (n_listOf (a_cons (sv rfl rfl (a_nil ⟨_, .inl rfl, ?_⟩)))))
  have zn : [zz8] ∉ S := fun h => by
    have := h7 _ (lS _ h zz8 List.mem_cons_self)
    rw [zz8_len] at this
    omega
  refine x_seq (x_asgNT (n_cat (e_lcIf rfl (i_list (e_sl (e_call (a_cons (e_var rfl (a_cons (e_int (a_nil ⟨rfl, ⟨ss, rfl, hs⟩, ?_⟩)))))))))))
  rintro _ ⟨ss', e, rfl⟩
  have es := strs_inj (D.lst.inj (List.cons.inj e).1)
  subst es
  refine o_some (e_int ⟨_, rfl, o_none (o_slL ⟨_, rfl, ?_⟩)⟩)
  rw [show (some (1 : Int)) = some ((1 : Nat) : Int) from rfl, cut_drop]
  rw [show (([] :: fndW ss 3).map wd).drop 1 = (fndW ss 3).map wd from rfl]
  have ml := fnd3_len hs.2.1
  have mg3 := fnd3l hs.2.2
  generalize fndW ss 3 = ms at ml mg3
  refine ⟨_, rfl, ?_, fun i => wd (ms.getD i []), fun i => !decide (ms.getD i [] ∈ S), ?_, ?_⟩
  · rw [List.length_map]; omega
  · rintro i hi _ rfl
    rw [List.length_map] at hi
    have eg : (ms.map wd).getD i .non = wd (ms.getD i []) := by rw [getWs hi, getDe hi]
    have gk := (mg3 _ (List.getElem_mem hi)).1.1
    rw [← getDe (x := []) hi] at gk
    dsimp only
    rw [eg]
    exact t_test (e_op (e_var (at_slot rfl) (e_var rfl (o_notInW (gw_ok gk) tS.ok ⟨_, rfl, rfl, fun _ => e_var (at_slot rfl) rfl⟩))))
  rw [List.length_map, range_filter ([] : List Str) (fun y => !decide (y ∈ S)) wd ms]
  refine e_lst (a_cons (e_tup (a_cons (e_str (a_nil ⟨sz rfl, a_nil ⟨sz rfl, ?_⟩⟩)))))
  have lf := List.length_filter_le (fun y => !decide (y ∈ S)) ms
  refine ⟨_, _, rfl, rfl, by rw [List.length_map]; exact szl (by simp only [List.length_cons, List.length_nil]; omega), ?_⟩
  have eM : (ms.filter fun y => !decide (y ∈ S)).map wd ++ [D.tup [D.str "zzzzzzzz"]] = ((ms.filter fun y => !decide (y ∈ S)) ++ [[zz8]]).map wd := by
    rw [List.map_append]
    rfl
  rw [eM]
  have mM : ∀ m ∈ (ms.filter fun y => !decide (y ∈ S)) ++ [[zz8]], (gw m ∧ m ≠ []) ∧ m ∉ S := fun m hm => by
    rcases List.mem_append.mp hm with hm | hm
    · obtain ⟨h1, h2⟩ := List.mem_filter.mp hm
      exact ⟨(mg3 m h1).1, by simpa using h2⟩
    · rw [List.mem_singleton.mp hm]
      exact ⟨⟨⟨by decide, fun x hx => by rw [List.mem_singleton.mp hx]; exact zz8_sgn⟩, by simp⟩, zn⟩
  have lM : 0 < ((ms.filter fun y => !decide (y ∈ S)) ++ [[zz8]]).length ∧ ((ms.filter fun y => !decide (y ∈ S)) ++ [[zz8]]).length ≤ 100 := by
    rw [List.length_append, List.length_singleton]
    omega
  generalize (ms.filter fun y => !decide (y ∈ S)) ++ [[zz8]] = M at mM lM
  refine ⟨fun d hd => by obtain ⟨k, _, rfl⟩ := List.mem_map.mp hd; exact flat2_wd k, ?_⟩
  refine x_seq (x_setAt rfl (e_call (a_cons (e_var rfl (a_cons (e_var rfl (a_nil ⟨rfl, .inl ⟨_, M.map wd, rfl, .inl rfl, by rw [List.length_map]; exact lM.1, by rw [List.length_map]; omega⟩, ?_⟩)))))))
  rintro _ (⟨_, xs, e1, he, hm⟩ | ⟨x, c, e1, _⟩)
  case inr => cases e1
  cases e1
  rcases he with he | he
  case inr => cases he
  cases he
  obtain ⟨m, hm2, rfl⟩ := List.mem_map.mp hm
  obtain ⟨gm, nm⟩ := mM m hm2
  refine e_call (a_cons (e_var rfl (a_cons (e_cb (a_cons (e_var rfl (a_nil (o_lenK ⟨_, S.length, rfl, congrArg some (List.length_map ..), ?_⟩))))))))
  refine a_nil ⟨rfl, ⟨_, rfl, by omega, by omega⟩, ?_⟩
  rintro _ ⟨_, q2, e2, rfl, q20, q21⟩
  cases e2
  obtain ⟨j, rfl⟩ := Int.eq_ofNat_of_zero_le q20
  have hj : j < S.length := by omega
  refine ⟨j, rfl, by rw [List.length_map]; exact hj, ?_⟩
  have nA := near_set tS hj gm nm
  rw [← List.map_set]
  have lA : (S.set j m).length = S.length := List.length_set ..
  generalize S.set j m = A at nA lA
  refine x_free (i := 4) (ds := A.map wd) rfl ?_
  have draw : ∀ {ρ : List (Option D)} {PP : D → Prop} (n : Int), ρ[0]? = some (some .pot) → 0 < n → n < 1000 → (∀ q : Int, PP (.int q)) → E1 z (tCall (spD 2 preDraw postDraw) [] (fun _ _ _ => False) (tCons (tVar 0) (tCons (tC (.int n)) tNil))) ρ PP := fun n h0 h1 h2 hq => e_call (a_cons (e_var h0 (a_cons (e_int (a_nil ⟨rfl, ⟨n, rfl, h1, by omega⟩, fun d hd => (by obtain ⟨_, q, _, rfl, _, _⟩ := hd; exact hq q)⟩)))))
  have sl1 : ∀ {xs : List (List Str)}, cutD (xs.map wd) (some 1) none = (xs.drop 1).map wd := fun {xs} => by
    rw [show (some (1 : Int)) = some ((1 : Nat) : Int) from rfl, cut_drop, List.map_drop]
  refine x_seq (x_imp (out' := { nx := fun ρ' => ∃ V, NearOf S V ∧ ρ' = [.va .pot, .va (.lst (ss.map D.str)), .va (.tup [.lst (ws.map wd), .lst (us.map wd)]), .va (.int sd), .va (.lst (V.map wd)), .va (.lst (M.map wd)), .un, .un], rt := fun _ => False }) ?_ ?_ (fun _ h => h.elim) (fun _ h => h) (fun _ h => h))
  · refine x_if (t_and (t_test (e_op (e_call (a_cons (e_var rfl (a_cons (e_int (a_nil ⟨rfl, ⟨3, rfl, by decide, by decide⟩, ?_⟩)))))))))
    rintro _ ⟨_, q, _, rfl, _, _⟩
    refine e_int (o_eqI ⟨_, rfl, iteB (fun _ => ?_) (fun _ => ?_)⟩)
    · refine t_test (e_op (e_cb (a_cons (e_var rfl (a_nil (o_lenK ⟨_, A.length, rfl, congrArg some (List.length_map ..), ?_⟩))))))
      refine e_int (o_I0 ⟨_, _, rfl, rfl, _, rfl, iteB (fun h => ?_) (fun h => ?_)⟩)
      · have h : (1 : Int) < (A.length : Nat) := of_decide_eq_true h
        refine x_asg (e_sl (e_cb (a_cons (sv rfl rfl (a_nil (o_listOf ⟨_, .inl rfl, o_some (e_int ⟨_, rfl, o_none (o_slL ⟨_, rfl, ?_⟩)⟩)⟩))))))
        rw [sl1]
        exact g_name ⟨_, near_drop tS (by omega), rfl⟩
      · exact x_next ⟨A, nA, rfl⟩
    · exact x_next ⟨A, nA, rfl⟩
  rintro _ ⟨V, nV, rfl⟩
  have slw : ∀ {ρ : List (Option D)} {PP : D → Prop} {k : List Str}, ρ[7]? = some (some (wd k)) → PP (wd (k.take 1)) → E1 z (tSl (rSlA K) (tVar 7) tNoPart (tPart (tC (.int 1)))) ρ PP := fun {ρ PP k} h q => by
    refine e_sl (e_var h (o_none (o_some (e_int ⟨_, rfl, o_slT ⟨_, rfl, ?_⟩⟩))))
    rw [show (1 : Int) = ((1 : Nat) : Int) from rfl, cut_take, ← List.map_take]
    exact q
  refine x_seq (x_asg (e_lcIf rfl (i_list (sv rfl rfl ⟨_, rfl, ?_, fun i => wd ((S.getD i []).take 1), fun i => decide (1 < (S.getD i []).length) && !decide ((S.getD i []).take 1 ∈ S), ?_, ?_⟩))))
  · rw [List.length_map]; omega
  · rintro i hi _ rfl
    rw [List.length_map] at hi
    have eg : (S.map wd).getD i .non = wd (S.getD i []) := by rw [getWs hi, getDe hi]
    have gk := tS.gw _ (List.getElem_mem hi)
    rw [← getDe (x := []) hi] at gk
    dsimp only
    rw [eg]
    clear eg
    generalize S.getD i [] = k at gk ⊢
    have gt : gw (k.take 1) := ⟨by rw [List.length_take]; omega, fun x hx => gk.2 x (List.mem_of_mem_take hx)⟩
    refine t_and (t_test (e_op (e_cb (a_cons (e_var (at_slot rfl) (a_nil (o_lenK ⟨_, k.length, rfl, congrArg some (wd_len k), e_int (o_I0 ⟨_, _, rfl, rfl, _, rfl, iteB (fun h => ?_) (fun h => ?_)⟩)⟩)))))))
    · have h : (1 : Int) < (k.length : Nat) := of_decide_eq_true h
      refine t_test (e_op (slw (at_slot rfl) (sv rfl rfl (o_notInW (gw_ok gt) tS.ok ⟨_, rfl, by rw [decide_eq_true (show 1 < k.length by omega), Bool.true_and], fun _ => slw (at_slot rfl) rfl⟩))))
    · have h : ¬ (1 : Int) < (k.length : Nat) := of_decide_eq_false h
      exact ⟨by rw [decide_eq_false (show ¬ 1 < k.length by omega), Bool.false_and], fun h => nomatch h⟩
  rw [List.length_map, range_filter ([] : List Str) (fun y => decide (1 < y.length) && !decide (y.take 1 ∈ S)) (fun y => wd (y.take 1)) S]
  have eB : (S.filter fun y => decide (1 < y.length) && !decide (y.take 1 ∈ S)).map (fun y => wd (y.take 1)) = ((S.filter fun y => decide (1 < y.length) && !decide (y.take 1 ∈ S)).map fun y => y.take 1).map wd := by
    rw [List.map_map]
    rfl
  rw [eB]
  have bB : ∀ b ∈ (S.filter fun y => decide (1 < y.length) && !decide (y.take 1 ∈ S)).map (fun y => y.take 1), (gw b ∧ b ≠ []) ∧ b ∉ S := fun b hb => by
    obtain ⟨k, hk, rfl⟩ := List.mem_map.mp hb
    obtain ⟨h1, h2⟩ := List.mem_filter.mp hk
    obtain ⟨h3, h4⟩ := Bool.and_eq_true_iff.mp h2
    have h3 := of_decide_eq_true h3
    refine ⟨⟨⟨by rw [List.length_take]; omega, fun x hx => (tS.gw k h1).2 x (List.mem_of_mem_take hx)⟩, fun e => ?_⟩, by simpa using h4⟩
    have := congrArg List.length e
    rw [List.length_take, List.length_nil] at this
    omega
  have lB : ((S.filter fun y => decide (1 < y.length) && !decide (y.take 1 ∈ S)).map fun y => y.take 1).length ≤ 3 := by
    rw [List.length_map]
    exact Nat.le_trans (List.length_filter_le ..) l3
  generalize (S.filter fun y => decide (1 < y.length) && !decide (y.take 1 ∈ S)).map (fun y => y.take 1) = B at bB lB
  refine g_name ?_
  refine x_seq (x_imp (out' := { nx := fun ρ' => ∃ V, NearOf S V ∧ ∃ a b c, ρ' = [.va .pot, .va (.lst (ss.map D.str)), .va (.tup [.lst (ws.map wd), .lst (us.map wd)]), .va (.int sd), .va (.lst (V.map wd)), a, b, c], rt := fun _ => False }) ?_ ?_ (fun _ h => h.elim) (fun _ h => h) (fun _ h => h))
  · refine x_if (t_and (t_test (e_op (e_call (a_cons (e_var rfl (a_cons (e_int (a_nil ⟨rfl, ⟨2, rfl, by decide, by decide⟩, ?_⟩)))))))))
    rintro _ ⟨_, q, _, rfl, _, _⟩
    refine e_int (o_eqI ⟨_, rfl, iteB (fun _ => ?_) (fun _ => x_next ⟨V, nV, _, _, _, rfl⟩)⟩)
    refine t_and (t_test (e_op (e_cb (a_cons (sv rfl rfl (a_nil (o_lenK ⟨_, S.length, rfl, congrArg some (List.length_map ..), ?_⟩)))))))
    refine e_int (o_I0 ⟨_, _, rfl, rfl, _, rfl, iteB (fun h => ?_) (fun _ => x_next ⟨V, nV, _, _, _, rfl⟩)⟩)
    have h : ((S.length : Nat) : Int) < 3 := of_decide_eq_true h
    refine t_test (e_op (e_var rfl (e_lst (a_nil ⟨sz rfl, o_neWs (l := []) (fun k hk => gw_ok (bB k hk).1.1) (fun k hk => by cases hk) ⟨_, rfl, iteB (fun h => ?_) (fun _ => x_next ⟨V, nV, _, _, _, rfl⟩)⟩⟩))))
    have hB : B ≠ [] := by simpa using h
    obtain ⟨b, B', rfl⟩ : ∃ b B', B = b :: B' := by
      cases B with
      | nil => exact absurd rfl hB
      | cons b B' => exact ⟨b, B', rfl⟩
    obtain ⟨gb, nb⟩ := bB b List.mem_cons_self
    refine x_asg (e_op (e_cb (a_cons (sv rfl rfl (a_nil (o_listOf ⟨_, .inl rfl, e_sl (e_var rfl (o_none (o_some (e_int ⟨_, rfl, o_slL ⟨_, rfl, ?_⟩⟩))))⟩))))))
    rw [show (1 : Int) = ((1 : Nat) : Int) from rfl, cut_take]
    refine o_cat ⟨_, _, rfl, rfl, ?_, g_name ⟨S ++ [b], near_snoc tS (by omega) gb nb, .va (.lst (M.map wd)), .va (.lst ((b :: B').map wd)), .un, ?_⟩⟩
    · rw [List.length_map]
      exact szl (by simp; omega)
    · rw [List.map_append]
      rfl
  rintro _ ⟨V, nV, a, b, c, rfl⟩
  obtain ⟨f1, f2⟩ := fin V nV
  refine x_ret (e_if (t_test (e_op (e_var rfl (e_int (o_eqI ⟨_, rfl, iteB (fun h => ?_) (fun h => ?_)⟩))))))
  · refine e_tup (a_cons (e_var rfl (a_cons (e_op (e_var rfl (e_int (o_ixT ⟨_, _, .lst (us.map wd), rfl, rfl, rfl, a_nil ⟨sz rfl, f1 (of_decide_eq_true h)⟩⟩)))))))
  · refine e_tup (a_cons (e_op (e_var rfl (e_int (o_ixT ⟨_, _, .lst (ws.map wd), rfl, rfl, rfl, a_cons (e_var rfl (a_nil ⟨sz rfl, f2 (of_decide_eq_false h)⟩))⟩)))))
end
end K21

set_option Elab.async false
set_option linter.all false
set_option maxRecDepth 100000
set_option pp.maxSteps 120
set_option maxHeartbeats 4000000
/-! K21h: what a saying tells. -/
namespace K21
open PySem PySem.Spec PyProof.Rows L2 PD
def sawD (ws us : List (List Str)) : D := .tup [.lst (ws.map wd), .lst (us.map wd)]
def preTl (K : PySem.W.Frag) (ds : List D) : Prop := ∃ oa ob ws us, ds = [sayD K oa ob, sawD ws us] ∧ IsOrd ws oa ∧ IsOrd us ob ∧ Tw ws ∧ Tw us
theorem Tw.okF_clo {ws os : List (List Str)} (h : Tw ws) (io : IsOrd (PD.clo ws) os) : K21.okF os := by
  refine ⟨fun k hk => clo_gw h.gw k ((io.mem k).mp hk), ?_⟩
  have h1 := io.len
  have h2 := fl_len h.gw
  have h3 : (PD.clo ws).length = (ws.flatMap inits).length + 1 := rfl
  have h4 := h.2.2.2
  omega
theorem okW_flat {ws : List (List Str)} {ys : List Str} (g : ∀ k ∈ ws, gw k) (o : OrdS ws.flatten ys) : okW ys := fun x hx => by
  obtain ⟨k, hk, hx⟩ := List.mem_flatten.mp ((o.mem x).mp hx)
  exact gw_ok (g k hk) x hx
theorem flat_congr {ws us : List (List Str)} (h : ∀ k, k ∈ ws ↔ k ∈ us) (x : Str) : x ∈ ws.flatten ↔ x ∈ us.flatten := by
  rw [List.mem_flatten, List.mem_flatten]
  exact ⟨fun ⟨l, a, b⟩ => ⟨l, (h l).mp a, b⟩, fun ⟨l, a, b⟩ => ⟨l, (h l).mpr a, b⟩⟩
section
variable {P : Program} {w : World} {K : PySem.W.Frag} {mg : Str → Option Value} {base : Heap} {Tb : List (Addr × Str)}
variable {z : Zp} {E : XK} {ρ : List (Option D)} {PP : D → Prop}
theorem v_tf {i : Nat} {oa ob : List (List Str)} (h : ρ[i]? = some (some (sayD K oa ob))) (ta : Tw oa) (tb : Tw ob) (q : ∀ os, IsOrd (clo oa) os → PP (frD K os)) : E1 z (tMeth (He.ga K "Saying") "trigger_front" (spDX 1 (preSay K) (postTf K) noX) [] E (tVar i) tNil) ρ PP :=
  e_ofX (t := fun E => tMeth (He.ga K "Saying") "trigger_front" (spDX 1 (preSay K) (postTf K) noX) [] E (tVar i) tNil) (ex_meth (e_var h ⟨_, rfl, rfl, a_nil ⟨rfl, ⟨oa, ob, rfl, ta, tb⟩, fun e he => (by
    obtain ⟨os, io, rfl⟩ := he oa ob rfl
    exact q os io), fun _ _ h => h⟩⟩))
theorem v_mf {i : Nat} {oa ob : List (List Str)} (h : ρ[i]? = some (some (sayD K oa ob))) (ta : Tw oa) (tb : Tw ob) (q : ∀ os, IsOrd (clo ob) os → PP (frD K os)) : E1 z (tMeth (He.ga K "Saying") "make_front" (spDX 1 (preSay K) (postMf K) noX) [] E (tVar i) tNil) ρ PP :=
  e_ofX (t := fun E => tMeth (He.ga K "Saying") "make_front" (spDX 1 (preSay K) (postMf K) noX) [] E (tVar i) tNil) (ex_meth (e_var h ⟨_, rfl, rfl, a_nil ⟨rfl, ⟨oa, ob, rfl, ta, tb⟩, fun e he => (by
    obtain ⟨os, io, rfl⟩ := he oa ob rfl
    exact q os io), fun _ _ h => h⟩⟩))
theorem v_front {te : TE} (h : E1 z te ρ fun d => ∃ ws : List (List Str), d = .lst (ws.map wd) ∧ Tw ws ∧ ∀ os, IsOrd (clo ws) os → PP (frD K os)) :
    E1 z (tMake (He.ga K "Front") (spInit (He.ga K "Front") 1 (preFi K) (postFi K) noX) [] E (tCons te tNil)) ρ PP :=
  e_ofX (t := fun E => tMake (He.ga K "Front") (spInit (He.ga K "Front") 1 (preFi K) (postFi K) noX) [] E (tCons te tNil)) (ex_make (a_cons (e_imp h fun d ⟨ws, hd, hw, q⟩ => by
    subst hd
    refine a_nil ⟨rfl, ⟨_, ws, rfl, .inl (.inl rfl), hw.okF, hw.clo⟩, fun fs h => ?_, fun _ _ h => h⟩
    obtain ⟨os, io, rfl⟩ := h _ ws rfl (.inl (.inl rfl))
    exact q os io)))
abbrev N_law_tells : List Str := ["_law_one", "_law_saw_here", "_law_wakes", "_law_puts", "_law_some"]
theorem sc_law_tells : FnScope N_law_tells ["_law_one", "_law_saw_here"] (defScope s_law_tells) := ⟨rfl, rfl, rfl, by decide +kernel, rfl, by decide +kernel, by decide +kernel⟩
theorem ok_law_tells (T : Txt P w K mg base Tb) {f : Addr} {fd : FuncData} (Dd : Df K mg "_law_tells" s_law_tells ["_law_one", "_law_saw_here"] f fd) : FnG P w K mg base CX0 9 f fd ["_law_one", "_law_saw_here"] (spD 2 (preTl K) fun _ d => d = .bl true) := by
  obtain ⟨f__law_lined, fd__law_lined, D_law_lined⟩ := T.d__law_lined
  obtain ⟨f__law_tags_in, fd__law_tags_in, D_law_tags_in⟩ := T.d__law_tags_in
  obtain ⟨f__law_closed, fd__law_closed, D_law_closed⟩ := T.d__law_closed
  obtain ⟨f_Saying_triggers, fd_Saying_triggers, D_Saying_triggers⟩ := T.m_Saying_triggers
  obtain ⟨f_Saying_makes, fd_Saying_makes, D_Saying_makes⟩ := T.m_Saying_makes
  obtain ⟨f_Saying_letters, fd_Saying_letters, D_Saying_letters⟩ := T.m_Saying_letters
  obtain ⟨f_Saying_make_letters, fd_Saying_make_letters, D_Saying_make_letters⟩ := T.m_Saying_make_letters
  obtain ⟨f_Saying_trigger_front, fd_Saying_trigger_front, D_Saying_trigger_front⟩ := T.m_Saying_trigger_front
  obtain ⟨f_Saying_make_front, fd_Saying_make_front, D_Saying_make_front⟩ := T.m_Saying_make_front
  obtain ⟨f_Saying___repr__, fd_Saying___repr__, D_Saying___repr__⟩ := T.m_Saying___repr__
  obtain ⟨f_Front___init__, fd_Front___init__, D_Front___init__⟩ := T.m_Front___init__
  obtain ⟨f_Front_words, fd_Front_words, D_Front_words⟩ := T.m_Front_words
  obtain ⟨f_Front___eq__, fd_Front___eq__, D_Front___eq__⟩ := T.m_Front___eq__
  refine okDG Dd.F sc_law_tells rfl (fun cdv A outer s H E hgd hr => ?_)
  have nd := sc_law_tells.nd
  refine ⟨_, (pss_cons (ps_par (i := 2) (j := 3) rfl nd rfl rfl (by decide) rfl rfl (pa_cons (pe_callG (ok_law_lined T D_law_lined) hgd (hr.mono (by decide)) rfl D_law_lined.m D_law_lined.F.kp D_law_lined.b .nil pass0 (pa_cons (pe_ix (r := rIxT K) ix_tup (pv 1) pe_int (by intro _ _; rfl)) pa_nil)) (pa_cons (pe_callG (ok_law_lined T D_law_lined) hgd (hr.mono (by decide)) rfl D_law_lined.m D_law_lined.F.kp D_law_lined.b .nil pass0 (pa_cons (pe_ix (r := rIxT K) ix_tup (pv 1) pe_int (by intro _ _; rfl)) pa_nil)) pa_nil)) (by rfl))
    (pss_cons (ps_if (PW.pt (pw_or (pt_cmpR (r := rNeD K) (op_neD hr.units) (pe_meth0 (pv 0) T.o_Saying.o.cl D_Saying_triggers.M (ok_Saying_triggers T D_Saying_triggers) (hr.mono (by decide)) D_Saying_triggers.b .nil pass0) (pv 2) (nomark _)) (pw_or (pt_cmpR (r := rNeD K) (op_neD hr.units) (pe_meth0 (pv 0) T.o_Saying.o.cl D_Saying_makes.M (ok_Saying_makes T D_Saying_makes) (hr.mono (by decide)) D_Saying_makes.b .nil pass0) (pv 3) (nomark _)) (pw_or (pt_cmpR op_ne (ClX.pe_cval (pe_glob (v := .ref (He.ga K "Saying")) rfl T.g_Saying rfl)) pe_int (nomark _)) (pw_or1 (pt_cmpR op_ne (pe_con (pv 0) rfl) pe_int (nomark _))))))) (pss_one (ps_ret pe_bl)) pss_nil)
    (pss_cons (ps_if (PW.pt (pw_or (pt_cmpR (r := rNeD K) (op_neD hr.units) (pe_meth0 (pv 0) T.o_Saying.o.cl D_Saying_letters.M (ok_Saying_letters T D_Saying_letters) (hr.mono (by decide)) D_Saying_letters.b .nil pass0) (pe_callG (ok_law_tags_in T D_law_tags_in) hgd (hr.mono (by decide)) rfl D_law_tags_in.m D_law_tags_in.F.kp D_law_tags_in.b .nil pass0 (pa_cons (pe_op op_cat (pv 2) (pv 3)) pa_nil)) (nomark _)) (pw_or1 (pt_cmpR (r := rNeD K) (op_neD hr.units) (pe_meth0 (pv 0) T.o_Saying.o.cl D_Saying_make_letters.M (ok_Saying_make_letters T D_Saying_make_letters) (hr.mono (by decide)) D_Saying_make_letters.b .nil pass0) (pe_callG (ok_law_tags_in T D_law_tags_in) hgd (hr.mono (by decide)) rfl D_law_tags_in.m D_law_tags_in.F.kp D_law_tags_in.b .nil pass0 (pa_cons (pv 3) pa_nil)) (nomark _))))) (pss_one (ps_ret pe_bl)) pss_nil)
    (pss_cons (ps_if (PW.pt (pw_or (pt_cmpR (r := rNeD K) (op_neD hr.units) (pe_meth0 (pe_meth0 (pv 0) T.o_Saying.o.cl D_Saying_trigger_front.M (ok_Saying_trigger_front T D_Saying_trigger_front) (hr.mono (by decide)) D_Saying_trigger_front.b .nil passN) T.o_Front.o.cl D_Front_words.M (ok_Front_words T D_Front_words) (hr.mono (by decide)) D_Front_words.b .nil pass0) (pe_callG (ok_law_closed T D_law_closed) hgd (hr.mono (by decide)) rfl D_law_closed.m D_law_closed.F.kp D_law_closed.b .nil pass0 (pa_cons (pv 2) pa_nil)) (nomark _)) (pw_or1 (pt_cmpR (op_neO (ok_Front___eq__ T D_Front___eq__) (hr.mono (by decide)) D_Front___eq__.b D_Front___eq__.M.at_ D_Front___eq__.M.fn T.ne_Front T.o_Front.o.hm pass0) (pe_meth0 (pv 0) T.o_Saying.o.cl D_Saying_make_front.M (ok_Saying_make_front T D_Saying_make_front) (hr.mono (by decide)) D_Saying_make_front.b .nil passN) (pe_make (T.o_Front.mkK' D_Front___init__) (ok_Front___init__ T D_Front___init__) (hr.mono (by decide)) rfl T.o_Front.g D_Front___init__.b .nil passN (pa_cons (pv 3) pa_nil)) (nomark _))))) (pss_one (ps_ret pe_bl)) pss_nil)
    (pss_cons (ps_for PassesOwn.never rfl (pi_list (pe_lst (pa_cons (pe_meth0 (pv 0) T.o_Saying.o.cl D_Saying_triggers.M (ok_Saying_triggers T D_Saying_triggers) (hr.mono (by decide)) D_Saying_triggers.b .nil pass0) (pa_cons (pe_meth0 (pv 0) T.o_Saying.o.cl D_Saying_makes.M (ok_Saying_makes T D_Saying_makes) (hr.mono (by decide)) D_Saying_makes.b .nil pass0) (pa_cons (pe_meth0 (pv 0) T.o_Saying.o.cl D_Saying_letters.M (ok_Saying_letters T D_Saying_letters) (hr.mono (by decide)) D_Saying_letters.b .nil pass0) (pa_cons (pe_meth0 (pv 0) T.o_Saying.o.cl D_Saying_make_letters.M (ok_Saying_make_letters T D_Saying_make_letters) (hr.mono (by decide)) D_Saying_make_letters.b .nil pass0) pa_nil)))))) (pg_name (i := 4) nd rfl (Or.inl rfl)) (pss_cons (ps_if (pt_not (pt_val (pe_callB (r := rIsi K) call_isi rfl T.n_isinstance boot_isinstance (pa_cons (pv 4) (pa_cons (pe_bltn (v := .ty "list") rfl T.n_list PyProof.Rows.boot_list rfl) pa_nil))))) (pss_one (ps_ret pe_bl)) pss_nil)
    (pss_one (ps_expr (pe_bm0 PySem.F.plainAttrs_list PySem.F.slot_list_clear PySem.F.type_list_clear mt_clear (pv 4))))))
    (pss_one (ps_ret (pe_cmpR op_eq (pe_callB (call_reprO (ok_Saying___repr__ T D_Saying___repr__) hgd (hr.mono (by decide)) hr.units D_Saying___repr__.b D_Saying___repr__.M.at_ D_Saying___repr__.M.fn pass0) rfl T.n_repr boot_repr (pa_cons (pv 0) pa_nil)) (pe_op op_add_str (pe_op op_add_str (pe_op op_add_str (pe_op op_add_str pe_str (pe_callB (call_reprD hgd hr.units) rfl T.n_repr boot_repr (pa_cons (pv 2) pa_nil))) pe_str) (pe_callB (call_reprD hgd hr.units) rfl T.n_repr boot_repr (pa_cons (pv 3) pa_nil))) pe_str) (nomark _))))))))), fun z ds hl hp => ?_⟩
  obtain ⟨oa, ob, ws, us, rfl, ioa, iob, tw, tu⟩ := hp
  have ta := tw.ord ioa
  have tb := tu.ord iob
  have la := ta.2.2.2
  have lb := tb.2.2.2
  have lw := tw.2.2.2
  have lu := tu.2.2.2
  have sv : ∀ {ρ : List (Option D)} {PP : D → Prop} {n : Int} {X : D}, ρ[1]? = some (some (sawD ws us)) → atI [D.lst (ws.map wd), .lst (us.map wd)] n = some X → PP X → E1 z (tOp (rIxT K) (tVar 1) (tC (.int n))) ρ PP := fun h1 h2 q => e_op (e_var h1 (e_int (o_ixT ⟨_, _, _, rfl, rfl, h2, q⟩)))
  refine x_seq (x_par (a_cons (e_call (a_cons (sv rfl rfl (a_nil ⟨rfl, ⟨ws, rfl, tw.gw, by omega⟩, fun d h => ?_⟩))))))
  obtain ⟨oa', io', rfl⟩ := h ws rfl
  have e1 := io'.unique ioa
  subst e1
  refine a_cons (e_call (a_cons (sv rfl rfl (a_nil ⟨rfl, ⟨us, rfl, tu.gw, by omega⟩, fun d h => ?_⟩))))
  obtain ⟨ob', io2, rfl⟩ := h us rfl
  have e1 := io2.unique iob
  subst e1
  refine a_nil ⟨_, _, rfl, ?_⟩
  obtain ⟨mc, tk, c1, c2⟩ := T.cv_Saying_MOST
  obtain ⟨tk2, c3⟩ := T.ci_Saying_MOST
  refine x_seq (x_if (t_or (t_test (e_op (e_ofNew (n_meth (e_var rfl ⟨_, rfl, rfl, a_nil ⟨rfl, ⟨oa', ob', rfl, ta, tb⟩, fun es h => h _ _ rfl⟩⟩)) ?_)))))
  rintro _ rfl
  refine e_var rfl (o_neWs ta.ok ta.ok ⟨_, rfl, iteNB (by simp) ?_⟩)
  refine t_or (t_test (e_op (e_ofNew (n_meth (e_var rfl ⟨_, rfl, rfl, a_nil ⟨rfl, ⟨oa', ob', rfl, ta, tb⟩, fun es h => h _ _ rfl⟩⟩)) ?_)))
  rintro _ rfl
  refine e_var rfl (o_neWs tb.ok tb.ok ⟨_, rfl, iteNB (by simp) ?_⟩)
  refine t_or (t_test (e_op (e_cval (e_raw ⟨_, mc, 3, _, rfl, c1, c2, e_int (o_neI ⟨_, rfl, iteNB (by decide) ?_⟩)⟩))))
  refine t_test (e_op (e_con (e_var rfl ⟨_, _, 3, _, rfl, T.o_Saying.o.cl, c3, rfl, e_int (o_neI ⟨_, rfl, iteNB (by decide) (x_next ?_)⟩)⟩)))
  refine x_seq (x_if (t_or (t_test (e_op (e_ofNew (n_meth (e_var rfl ⟨_, rfl, rfl, a_nil ⟨rfl, ⟨oa', ob', rfl, ta, tb⟩, fun es h => h _ _ rfl⟩⟩)) ?_)))))
  rintro _ ⟨ys, oy, rfl⟩
  have gab : ∀ k ∈ oa' ++ ob', gw k := fun k hk => (List.mem_append.mp hk).elim (ta.gw k) (tb.gw k)
  refine e_call (a_cons (e_op (e_var rfl (e_var rfl (o_cat ⟨_, _, rfl, rfl, by rw [List.length_map, List.length_map]; exact szl (by omega), ?_⟩)))))
  rw [← List.map_append]
  refine a_nil ⟨rfl, ⟨oa' ++ ob', rfl, gab, by rw [List.length_append]; omega⟩, fun d h => ?_⟩
  obtain ⟨ys', oy', rfl⟩ := h _ rfl
  have e1 := oy'.unique oy
  subst e1
  refine o_neSL (okW_flat gab oy) (okW_flat gab oy) ⟨_, rfl, iteNB (by simp) ?_⟩
  refine t_test (e_op (e_ofNew (n_meth (e_var rfl ⟨_, rfl, rfl, a_nil ⟨rfl, ⟨oa', ob', rfl, ta, tb⟩, fun es h => h _ _ rfl⟩⟩)) ?_))
  rintro _ ⟨ms, om, rfl⟩
  refine e_call (a_cons (e_var rfl (a_nil ⟨rfl, ⟨ob', rfl, tb.gw, by omega⟩, fun d h => ?_⟩)))
  obtain ⟨ms', om', rfl⟩ := h _ rfl
  have e1 := om'.unique om
  subst e1
  refine o_neSL (okW_flat tb.gw om) (okW_flat tb.gw om) ⟨_, rfl, iteNB (by simp) (x_next ?_)⟩
  refine x_seq (x_if (t_or (t_test (e_op (e_meth (v_tf rfl ta tb fun os io => ⟨_, rfl, rfl, a_nil ⟨rfl, ⟨os, rfl, ta.okF_clo io⟩, fun d h => ?_⟩⟩))))))
  rw [h os rfl]
  refine e_call (a_cons (e_var rfl (a_nil ⟨rfl, ⟨oa', rfl, ta.gw, by omega⟩, fun d h => ?_⟩)))
  obtain ⟨os', io', rfl⟩ := h _ rfl
  have e1 := io'.unique io
  subst e1
  have oko : okWs os' := fun k hk => gw_ok ((ta.okF_clo io).1 k hk)
  refine o_neWs oko oko ⟨_, rfl, iteNB (by simp) ?_⟩
  refine t_test (e_op (v_mf rfl ta tb fun os io => v_front (e_var rfl ⟨ob', rfl, tb, fun os' io' => ?_⟩)))
  have e1 := io'.unique io
  subst e1
  refine o_neO rfl (tyIs_obj T.o_Front.o) notFirst_same ⟨os', os', rfl, tb.okF_clo io, tb.okF_clo io⟩ fun r h => ⟨_, h _ _ rfl, _, rfl, iteNB (by simp) (x_next ?_)⟩
  refine x_seq (x_forClear (i := 4) (Nat.le_of_ble_eq_true rfl) (an_cons (n_meth (e_var rfl ⟨_, rfl, rfl, a_nil ⟨rfl, ⟨oa', ob', rfl, ta, tb⟩, fun es h => ?_⟩⟩))))
  clear h
  refine an_cons (n_meth (e_var rfl ⟨_, rfl, rfl, a_nil ⟨rfl, ⟨oa', ob', rfl, ta, tb⟩, fun es h => ?_⟩⟩))
  clear h
  refine an_cons (n_meth (e_var rfl ⟨_, rfl, rfl, a_nil ⟨rfl, ⟨oa', ob', rfl, ta, tb⟩, fun es h => ?_⟩⟩))
  clear h
  refine an_cons (n_meth (e_var rfl ⟨_, rfl, rfl, a_nil ⟨rfl, ⟨oa', ob', rfl, ta, tb⟩, fun es h => ?_⟩⟩))
  clear h
  refine an_nil ⟨by simp, by simp, fun ds hds => ?_, ?_⟩
  · exact t_not (t_test (e_cb (a_cons (e_var (d := .lst ds) rfl (a_cons (e_raw (a_nil (o_isTy ⟨_, _, _, true, rfl, rfl, kit_lst (d := .lst []) rfl, _, rfl, rfl⟩))))))))
  have small : ∀ {os : List (List Str)}, Tw os → ∀ d ∈ os.map wd, Small d := fun h => small_wds h.gw
  have sla := shL_len ta.gw la
  have slb := shL_len tb.gw lb
  have l0 : (("Saying(" : Str)).length = 7 := by decide +kernel
  have l1 : ((", " : Str)).length = 2 := by decide +kernel
  have l2 : ((")" : Str)).length = 1 := by decide +kernel
  refine x_ret (e_op (e_cb (a_cons (e_var rfl (a_nil (o_reprO ⟨_, rfl, ⟨oa', ob', rfl, ta, tb⟩, fun e h => ⟨_, h _ _ rfl, ?_⟩⟩ T.o_Saying.o))))))
  refine e_op (e_op (e_op (e_op (e_str (e_cb (a_cons (e_var rfl (a_nil (o_reprL (small ta) (by rw [List.length_map]; omega) (o_addS ⟨_, _, rfl, rfl, ?_, ?_⟩))))))))))
  · show (("Saying(" : Str)).length + (shL oa').length ≤ _
    exact szk (by omega)
  refine e_str (o_addS ⟨_, _, rfl, rfl, ?_, ?_⟩)
  · show (("Saying(" : Str) ++ shL oa').length + ((", " : Str)).length ≤ _
    rw [app_len]
    exact szk (by omega)
  refine e_cb (a_cons (e_var rfl (a_nil (o_reprL (small tb) (by rw [List.length_map]; omega) (o_addS ⟨_, _, rfl, rfl, ?_, ?_⟩)))))
  · show ((("Saying(" : Str) ++ shL oa') ++ (", " : Str)).length + (shL ob').length ≤ _
    rw [app_len, app_len]
    exact szk (by omega)
  refine e_str (o_addS ⟨_, _, rfl, rfl, ?_, ?_⟩)
  · show (((("Saying(" : Str) ++ shL oa') ++ (", " : Str)) ++ shL ob').length + ((")" : Str)).length ≤ _
    rw [app_len, app_len, app_len]
    exact szk (by omega)
  exact o_eqS (congrArg D.bl (decide_eq_true rfl))
end
end K21

set_option Elab.async false
set_option linter.all false
set_option maxRecDepth 100000
set_option pp.maxSteps 120
set_option maxHeartbeats 4000000
/-! K21i: the law. -/
namespace K21
open PySem PySem.Spec PyProof.Rows L2 PD
def spLaw (Tb : List (Addr × Str)) (K : PySem.W.Frag) : Sp := fun vs H Q _ => ∃ (a : Addr) (ns : List Int), vs = [.ref a] ∧ SqL K H a (ns.map V.int) ∧ PotAt ⟨none, Tb⟩ H ∧ ∀ H', Q (.bl true) H'
theorem seq_exz {K : PySem.W.Frag} {Tb : List (Addr × Str)} {H H' : Hp} {a : Addr} {xs : List V} (p : PotAt ⟨none, Tb⟩ H) (e : ExZ ⟨none, Tb⟩ H H') (h : SqL K H a xs) : SqL K H' a xs := by
  have off : ∀ o, H a = some o → (∀ ps, o ≠ .tbl ps) → ¬ (⟨none, Tb⟩ : Zp).at a := fun o ho n hz => by
    rcases hz with hz | ⟨q, hq⟩
    · cases hz
    · obtain ⟨ps, h1, _⟩ := p.tabs _ hq
      rw [ho] at h1
      exact n ps (Option.some.inj h1)
  rcases h with (h | ⟨o, h⟩) | h
  · exact .inl (.inl (e a _ (off _ h fun ps z => by cases z) h))
  · exact .inl (.inr ⟨o, e a _ (off _ h fun ps z => by cases z) h⟩)
  · exact .inr h
/-- [right(pot(script, k)) for k in range(n)] -/
theorem lc_pots {K : PySem.W.Frag} {Tb : List (Addr × Str)} {a D : Addr} {ns : List Int} {H1 : Hp} {Qd : Hp → Prop} {x : Option V} {n : Nat} (hn : n ≤ 4) (hS : SqL K H1 a (ns.map V.int)) (hP : PotAt ⟨none, Tb⟩ H1) (nD : H1 D = none) (hd : ∀ H', H' D = some (.lst (List.replicate n (V.bl true))) → Qd H') :
    ∃ W : Nat → Nat → Hp → Prop, (∃ m, W 0 m (upd H1 D (.lst []))) ∧ ∀ i m H, W i m H →
      ((Itr 0 n).stop i H ∧ Qd H) ∨ ((Itr 0 n).go i H ∧ ∃ Nx : Hp → Prop, (∀ H', Nx H' → ∃ m', m' < m ∧ W (i + 1) m' H') ∧ ∀ y H', (Itr 0 n).yld i H y H' → gName 1 y (wipe [some (.ref a), x] [1]) H' fun σ2 H2 => wipe σ2 [1] = wipe [some (.ref a), x] [1] ∧ tYes σ2 H2 fun b H3 =>
        if b = true then tCall (spDT Tb 1 (fun ds => ds = [.pot]) fun _ d => d = .bl true) [] E0 (tCons (tCall (spPot K) [] E0 (tCons (tVar 0) (tCons (tVar 1) tNil))) tNil) σ2 H3 fun y H4 => ∃ acc, H4 D = some (.lst acc) ∧ acc.length < sizeLine ∧ Nx (upd H4 D (.lst (acc ++ [y]))) else Nx H3) := by
  have nat : ¬ (⟨none, Tb⟩ : Zp).at D := fun hz => by
    rcases hz with hz | ⟨q, hq⟩
    · cases hz
    · obtain ⟨ps, h1, _⟩ := hP.tabs _ hq
      rw [nD] at h1
      cases h1
  refine lc_range (fun i H => ExZ ⟨none, Tb⟩ H1 H ∧ PotAt ⟨none, Tb⟩ H ∧ H D = some (.lst (List.replicate i (V.bl true)))) ⟨ExZ.new nD, hP.keep (Ex.new nD) (fun b ps hb => ?_), upd_same⟩ ?_ fun H h => hd H h.2.2
  · by_cases e : b = D
    · rw [e, upd_same] at hb
      cases hb
    · rwa [upd_ne e] at hb
  rintro i H hi ⟨ex, hp, hD⟩
  refine ⟨rfl, ?_⟩
  unfold tYes
  refine iteT ?_
  refine ⟨_, rfl, _, rfl, a, 0 + (i : Int), ns, rfl, by omega, by omega, seq_exz hP ex hS, fun p u y hpn u0 y0 y1 => ?_⟩
  have nDp : D ≠ p := fun e => by rw [e, hpn] at hD; cases hD
  have okp : Ok ⟨some p, Tb⟩ (fun _ => False) (upd H p (.lst [.int u, .int y])) := ⟨⟨fun b hb => ?_, hp.tabs.ext (Ex.new hpn), fun b ps hb => ?_⟩, fun b hb => hb.elim⟩
  · refine ⟨⟨some p, Tb⟩, fun _ => False, [.pot], rfl, rfl, rfl, okp, .cons (.pot rfl) .nil, fun v H' d e2 ok r pd => ?_⟩
    subst pd
    cases r
    have nat2 : ¬ (⟨some p, Tb⟩ : Zp).at D := fun hz => by
      rcases hz with hz | hz
      · exact nDp (Option.some.inj hz).symm
      · exact nat (.inr hz)
    have hD' : H' D = some (.lst (List.replicate i (V.bl true))) := e2 D _ nat2 (by rw [upd_ne nDp]; exact hD)
    have pu := ok.pot.upd (ys := List.replicate i (V.bl true) ++ [V.bl true]) nat2 hD'
    refine ⟨_, hD', ?_, fun b o nb hb => ?_, ⟨fun _ hb => (by cases hb), pu.tabs, pu.only⟩, ?_⟩
    · rw [List.length_replicate, sizeLine_eq]
      omega
    · have hb1 := ex b o nb hb
      have nbp : b ≠ p := ne_of_none hb1 hpn
      rw [upd_ne (ne_of_none hb nD)]
      refine e2 b o (fun hz => ?_) (by rw [upd_ne nbp]; exact hb1)
      rcases hz with hz | hz
      · exact nbp (Option.some.inj hz).symm
      · exact nb (.inr hz)
    · rw [upd_same, List.replicate_succ']
  · cases hb
    exact ⟨u, y, upd_same, u0, y0, y1⟩
  · by_cases e : b = p
    · rw [e, upd_same] at hb
      cases hb
    · rw [upd_ne e] at hb
      exact hp.only b ps hb
theorem notFirst_of {K : PySem.W.Frag} {C : Addr} {t : Value} (h : PySem.W.kitOne K t (.ref C) = some false) : PySem.W.notFirst K C t = true := by
  unfold PySem.W.kitOne at h
  split at h
  · cases h
  · unfold PySem.W.kitCls at h
    dsimp only at h
    split at h
    · unfold PySem.W.notFirst
      rw [h]
      simp
    · cases h
theorem ord_self {ws os : List (List Str)} (io : IsOrd ws os) : IsOrd os os := ⟨io.srt, fun _ => Iff.rfl⟩
theorem Tw.perm {ws us : List (List Str)} (h : Tw ws) (p : us.Perm ws) : Tw us := ⟨p.nodup_iff.mpr h.1, fun k hk => h.2.1 k (p.mem_iff.mp hk), by rw [p.length_eq]; exact h.2.2.1, by rw [p.length_eq]; exact h.2.2.2⟩
theorem fr_ne {K : PySem.W.Frag} {os oc od : List (List Str)} : frD K os ≠ sayD K oc od := fun h => by
  unfold frD sayD sayF at h
  obtain ⟨_, h⟩ := D.obj.inj h
  have := congrArg List.length h
  simp at this
theorem small_bl (b : Bool) : Small (.bl b) := by
  cases b <;> exact ⟨rfl, rfl, by decide +kernel, by decide⟩
theorem four_shown : (py (.lst [.bl true, .bl false, .bl false, .bl true])).shown = ("[True, False, False, True]" : Str) := by decide +kernel
section
variable {P : Program} {w : World} {K : PySem.W.Frag} {mg : Str → Option Value} {base : Heap} {Tb : List (Addr × Str)}
variable {z : Zp} {E : XK} {ρ : List (Option D)} {PP : D → Prop}
theorem v_mix {te : TE} (h0 : ρ[0]? = some (some .pot)) (h : E1 z te ρ fun d => ∃ ws : List (List Str), d = .lst (ws.map wd) ∧ Tw ws ∧ ∀ e us, SqW e us → us.Perm ws → Tw us → PP e) : E1 z (tCall (spD 2 preMx postMx) [] E (tCons (tVar 0) (tCons te tNil))) ρ PP :=
  e_call (a_cons (e_var h0 (a_cons (e_imp h fun d ⟨ws, hd, tw, q⟩ => by
    subst hd
    refine a_nil ⟨rfl, ⟨ws, rfl, tw.gw, tw.2.2.2⟩, fun e he => ?_⟩
    obtain ⟨us, pm, hq⟩ := he ws rfl
    exact q e us hq pm (tw.perm pm)))))
theorem v_say {ta tb : TE} (h : E1 z ta ρ fun d => E1 z tb ρ fun e => ∃ ws us : List (List Str), SqW d ws ∧ SqW e us ∧ Tw ws ∧ Tw us ∧ ∀ oa ob, IsOrd ws oa → IsOrd us ob → PP (sayD K oa ob)) :
    E1 z (tMake (He.ga K "Saying") (spInit (He.ga K "Saying") 2 preS postS noX) [] E (tCons ta (tCons tb tNil))) ρ PP :=
  e_ofX (t := fun E => tMake (He.ga K "Saying") (spInit (He.ga K "Saying") 2 preS postS noX) [] E (tCons ta (tCons tb tNil))) (ex_make (a_cons (e_imp h fun d h1 => a_cons (e_imp h1 fun e ⟨ws, us, hd, he, tw, tu, q⟩ => by
    refine a_nil ⟨rfl, ⟨d, e, ws, us, rfl, hd, he, tw, tu⟩, fun fs hf => ?_, fun _ _ h => h⟩
    obtain ⟨oa, ob, ia, ib, rfl⟩ := hf d e ws us rfl hd he
    exact q oa ob ia ib))))
theorem v_sayK {ta tb : TE} (h : E1 z ta ρ fun d => E1 z tb ρ fun e => ∃ ws us : List (List Str), SqW e ws ∧ SqW d us ∧ Tw ws ∧ Tw us ∧ ∀ oa ob, IsOrd ws oa → IsOrd us ob → PP (sayD K oa ob)) :
    E1 z (tMakeK (He.ga K "Saying") 0 2 (spInit (He.ga K "Saying") 2 preS postS noX) kSR E tNil (tCons ta (tCons tb tNil))) ρ PP :=
  e_ofX (t := fun E => tMakeK (He.ga K "Saying") 0 2 (spInit (He.ga K "Saying") 2 preS postS noX) kSR E tNil (tCons ta (tCons tb tNil))) (ex_makeK (gD := List.reverse) kSR_make (a_cons (e_imp h fun d h1 => a_cons (e_imp h1 fun e ⟨ws, us, he, hd, tw, tu, q⟩ => by
    refine a_nil ⟨rfl, rfl, ⟨e, d, ws, us, rfl, he, hd, tw, tu⟩, fun fs hf => ?_, fun _ _ h => h⟩
    obtain ⟨oa, ob, ia, ib, rfl⟩ := hf e d ws us rfl he hd
    exact q oa ob ia ib))))
theorem v_wt {i : Nat} {te : TE} {oa ob : List (List Str)} (h0 : ρ[i]? = some (some (sayD K oa ob))) (ta : Tw oa) (tb : Tw ob) (ib : IsOrd ob ob) (h : E1 z te ρ fun d => ∃ ws : List (List Str), SqW d ws ∧ Tw ws ∧ ∀ oc, IsOrd ws oc → PP (sayD K oc ob)) :
    E1 z (tMeth (He.ga K "Saying") "with_triggers" (spDX 2 (preW K) (postWt K) noX) [] E (tVar i) (tCons te tNil)) ρ PP :=
  e_ofX (t := fun E => tMeth (He.ga K "Saying") "with_triggers" (spDX 2 (preW K) (postWt K) noX) [] E (tVar i) (tCons te tNil)) (ex_meth (e_var h0 ⟨_, rfl, rfl, a_cons (e_imp h fun d ⟨ws, hd, tw, q⟩ => a_nil ⟨rfl, ⟨oa, ob, d, ws, rfl, ta, tb, hd, tw⟩, fun e he => (by
    obtain ⟨oc, ic, rfl⟩ := he oa ob d ws rfl hd ib
    exact q oc ic), fun _ _ h => h⟩)⟩))
theorem v_wm {i : Nat} {te : TE} {oa ob : List (List Str)} (h0 : ρ[i]? = some (some (sayD K oa ob))) (ta : Tw oa) (tb : Tw ob) (ia : IsOrd oa oa) (h : E1 z te ρ fun d => ∃ ws : List (List Str), SqW d ws ∧ Tw ws ∧ ∀ oc, IsOrd ws oc → PP (sayD K oa oc)) :
    E1 z (tMeth (He.ga K "Saying") "with_makes" (spDX 2 (preW K) (postWm K) noX) [] E (tVar i) (tCons te tNil)) ρ PP :=
  e_ofX (t := fun E => tMeth (He.ga K "Saying") "with_makes" (spDX 2 (preW K) (postWm K) noX) [] E (tVar i) (tCons te tNil)) (ex_meth (e_var h0 ⟨_, rfl, rfl, a_cons (e_imp h fun d ⟨ws, hd, tw, q⟩ => a_nil ⟨rfl, ⟨oa, ob, d, ws, rfl, ta, tb, hd, tw⟩, fun e he => (by
    obtain ⟨oc, ic, rfl⟩ := he oa ob d ws rfl hd ia
    exact q oc ic), fun _ _ h => h⟩)⟩))
theorem q_eq (T : Txt P w K mg base Tb) {oa ob oc od : List (List Str)} (ta : Tw oa) (tb : Tw ob) (tc : Tw oc) (td : Tw od) (q : PP (.bl (decide (oa = oc) && decide (ob = od)))) : O2 z (rEqO K (He.ga K "Saying") (spD 2 (preEq K) (postEq K)) E) (sayD K oa ob) (sayD K oc od) PP :=
  o_eqO rfl (tyIs_obj T.o_Saying.o) notFirst_same ⟨oa, ob, _, rfl, ta, tb, .inl ⟨oc, od, rfl, tc, td⟩⟩ fun r h => ⟨_, (h oa ob _ rfl).2.1 oc od rfl, q⟩
theorem q_ne (T : Txt P w K mg base Tb) {oa ob oc od : List (List Str)} (ta : Tw oa) (tb : Tw ob) (tc : Tw oc) (td : Tw od) (q : PP (.bl (!(decide (oa = oc) && decide (ob = od))))) : O2 z (rNeO K (He.ga K "Saying") (spD 2 (preEq K) (postEq K)) E) (sayD K oa ob) (sayD K oc od) PP :=
  o_neO rfl (tyIs_obj T.o_Saying.o) notFirst_same ⟨oa, ob, _, rfl, ta, tb, .inl ⟨oc, od, rfl, tc, td⟩⟩ fun r h => ⟨_, (h oa ob _ rfl).2.1 oc od rfl, q⟩
theorem q_odd {oa ob : List (List Str)} {e : D} (ta : Tw oa) (tb : Tw ob) (ho : Oth K e) (ne : ∀ oc od, e ≠ sayD K oc od) (q : PP (.bl false)) : O2 z (rEqO K (He.ga K "Saying") (spD 2 (preEq K) (postEq K)) E) (sayD K oa ob) e PP := by
  obtain ⟨t, h1, h2⟩ := id ho
  exact o_eqO rfl h1 (notFirst_of h2) ⟨oa, ob, _, rfl, ta, tb, .inr ⟨ho, ne⟩⟩ fun r h => ⟨_, (h oa ob _ rfl).2.2 ne, q⟩
abbrev N_law_right : List Str := ["_law_pot_here", "_law_turn", "_law_tags_here", "_law_saw_here", "_law_other", "_law_one", "_law_twin", "_law_near_here", "_law_mate", "_law_turned", "_law_back", "_law_odd"]
theorem sc_law_right : FnScope N_law_right ["_law_pot_here"] (defScope s_law_right) := ⟨rfl, rfl, rfl, by decide +kernel, rfl, by decide +kernel, by decide +kernel⟩
theorem ok_law_right (T : Txt P w K mg base Tb) {f : Addr} {fd : FuncData} (Dd : Df K mg "_law_right" s_law_right ["_law_pot_here"] f fd) : FnG P w K mg base CX0 12 f fd ["_law_pot_here"] (spDT Tb 1 (fun ds => ds = [.pot]) fun _ d => d = .bl true) := by
  obtain ⟨f__law_draw, fd__law_draw, D_law_draw⟩ := T.d__law_draw
  obtain ⟨f__law_tags, fd__law_tags, D_law_tags⟩ := T.d__law_tags
  obtain ⟨f__law_saw, fd__law_saw, D_law_saw⟩ := T.d__law_saw
  obtain ⟨f__law_mixed, fd__law_mixed, D_law_mixed⟩ := T.d__law_mixed
  obtain ⟨f__law_tells, fd__law_tells, D_law_tells⟩ := T.d__law_tells
  obtain ⟨f__law_near, fd__law_near, D_law_near⟩ := T.d__law_near
  obtain ⟨f_Saying___init__, fd_Saying___init__, D_Saying___init__⟩ := T.m_Saying___init__
  obtain ⟨f_Saying_triggers, fd_Saying_triggers, D_Saying_triggers⟩ := T.m_Saying_triggers
  obtain ⟨f_Saying_with_triggers, fd_Saying_with_triggers, D_Saying_with_triggers⟩ := T.m_Saying_with_triggers
  obtain ⟨f_Saying_with_makes, fd_Saying_with_makes, D_Saying_with_makes⟩ := T.m_Saying_with_makes
  obtain ⟨f_Saying___eq__, fd_Saying___eq__, D_Saying___eq__⟩ := T.m_Saying___eq__
  obtain ⟨f_Saying___repr__, fd_Saying___repr__, D_Saying___repr__⟩ := T.m_Saying___repr__
  obtain ⟨f_Front___init__, fd_Front___init__, D_Front___init__⟩ := T.m_Front___init__
  refine PD.okT Dd.F sc_law_right rfl (fun cdv A outer s H E hgd hr => ?_)
  have nd := sc_law_right.nd
  refine ⟨_, (pss_cons (ps_for PassesOwn.never rfl (pi_range1 rfl T.n_range (pa_cons pe_int pa_nil)) (pg_name (i := 1) nd rfl (Or.inl rfl)) (pss_cons (ps_asg (pe_call (ok_law_tags T D_law_tags) (hr.mono (by decide)) rfl D_law_tags.m D_law_tags.F.kp D_law_tags.b .nil pass0 (pa_cons (pv 0) (pa_cons (pe_op op_add pe_int (pe_call (ok_law_draw T D_law_draw) (hr.mono (by decide)) rfl D_law_draw.m D_law_draw.F.kp D_law_draw.b .nil pass0 (pa_cons (pv 0) (pa_cons pe_int pa_nil)))) pa_nil))) (pg_name (i := 2) nd rfl (Or.inl rfl)))
    (pss_cons (ps_par (i := 3) (j := 4) rfl nd rfl rfl (by decide) rfl rfl (pa_cons (pe_call (ok_law_saw T D_law_saw) (hr.mono (by decide)) rfl D_law_saw.m D_law_saw.F.kp D_law_saw.b .nil pass0 (pa_cons (pv 0) (pa_cons (pv 2) pa_nil))) (pa_cons (pe_call (ok_law_saw T D_law_saw) (hr.mono (by decide)) rfl D_law_saw.m D_law_saw.F.kp D_law_saw.b .nil pass0 (pa_cons (pv 0) (pa_cons (pv 2) pa_nil))) pa_nil)) (by rfl))
    (pss_cons (ps_asg (pe_make (T.o_Saying.mkK D_Saying___init__) (ok_Saying___init__ T D_Saying___init__) (hr.mono (by decide)) rfl T.o_Saying.g D_Saying___init__.b .nil passN (pa_cons (pe_call (ok_law_mixed T D_law_mixed) (hr.mono (by decide)) rfl D_law_mixed.m D_law_mixed.F.kp D_law_mixed.b .nil pass0 (pa_cons (pv 0) (pa_cons (pe_ix (r := rIxT K) ix_tup (pv 3) pe_int (by intro _ _; rfl)) pa_nil))) (pa_cons (pe_call (ok_law_mixed T D_law_mixed) (hr.mono (by decide)) rfl D_law_mixed.m D_law_mixed.F.kp D_law_mixed.b .nil pass0 (pa_cons (pv 0) (pa_cons (pe_ix (r := rIxT K) ix_tup (pv 3) pe_int (by intro _ _; rfl)) pa_nil))) pa_nil))) (pg_name (i := 5) nd rfl (Or.inr rfl)))
    (pss_cons (ps_asg (pe_makeK0 (T.o_Saying.mkK D_Saying___init__) (ok_Saying___init__ T D_Saying___init__) (hr.mono (by decide)) rfl T.o_Saying.g (kb_Saying___init__R D_Saying___init__.F) passN (pk_cons (pe_call (ok_law_mixed T D_law_mixed) (hr.mono (by decide)) rfl D_law_mixed.m D_law_mixed.F.kp D_law_mixed.b .nil pass0 (pa_cons (pv 0) (pa_cons (pe_ix (r := rIxT K) ix_tup (pv 3) pe_int (by intro _ _; rfl)) pa_nil))) (pk_cons (pe_call (ok_law_mixed T D_law_mixed) (hr.mono (by decide)) rfl D_law_mixed.m D_law_mixed.F.kp D_law_mixed.b .nil pass0 (pa_cons (pv 0) (pa_cons (pe_ix (r := rIxT K) ix_tup (pv 3) pe_int (by intro _ _; rfl)) pa_nil))) pk_nil))) (pg_name (i := 6) nd rfl (Or.inl rfl)))
    (pss_cons (ps_asg (pe_call (ok_law_near T D_law_near) (hr.mono (by decide)) rfl D_law_near.m D_law_near.F.kp D_law_near.b .nil pass0 (pa_cons (pv 0) (pa_cons (pv 2) (pa_cons (pv 3) pa_nil)))) (pg_name (i := 7) nd rfl (Or.inl rfl)))
    (pss_cons (ps_asg (pe_make (T.o_Saying.mkK D_Saying___init__) (ok_Saying___init__ T D_Saying___init__) (hr.mono (by decide)) rfl T.o_Saying.g D_Saying___init__.b .nil passN (pa_cons (pe_ix (r := rIxT K) ix_tup (pv 7) pe_int (by intro _ _; rfl)) (pa_cons (pe_ix (r := rIxT K) ix_tup (pv 7) pe_int (by intro _ _; rfl)) pa_nil))) (pg_name (i := 8) nd rfl (Or.inl rfl)))
    (pss_cons (ps_if (PW.pt (pw_or (pt_not (pt_val (pe_callG (ok_law_tells T D_law_tells) hgd (hr.mono (by decide)) rfl D_law_tells.m D_law_tells.F.kp D_law_tells.b .nil pass0 (pa_cons (pv 5) (pa_cons (pv 3) pa_nil))))) (pw_or (pt_not (pt_val (pe_callG (ok_law_tells T D_law_tells) hgd (hr.mono (by decide)) rfl D_law_tells.m D_law_tells.F.kp D_law_tells.b .nil pass0 (pa_cons (pv 5) (pa_cons (pv 3) pa_nil))))) (pw_or1 (pt_not (pt_val (pe_callG (ok_law_tells T D_law_tells) hgd (hr.mono (by decide)) rfl D_law_tells.m D_law_tells.F.kp D_law_tells.b .nil pass0 (pa_cons (pv 8) (pa_cons (pv 7) pa_nil))))))))) (pss_one (ps_ret pe_bl)) pss_nil)
    (pss_cons (ps_if (pt_cmpR op_ne (pe_callB (call_reprD hgd hr.units) rfl T.n_repr boot_repr (pa_cons (pe_lst (pa_cons (pe_cmpR (op_eqO (ok_Saying___eq__ T D_Saying___eq__) (hr.mono (by decide)) D_Saying___eq__.b D_Saying___eq__.M.at_ D_Saying___eq__.M.fn pass0) (pv 5) (pv 6) (nomark _)) (pa_cons (pe_cmpR (op_neO (ok_Saying___eq__ T D_Saying___eq__) (hr.mono (by decide)) D_Saying___eq__.b D_Saying___eq__.M.at_ D_Saying___eq__.M.fn T.ne_Saying T.o_Saying.o.hm pass0) (pv 5) (pv 6) (nomark _)) (pa_cons (pe_cmpR (op_eqO (ok_Saying___eq__ T D_Saying___eq__) (hr.mono (by decide)) D_Saying___eq__.b D_Saying___eq__.M.at_ D_Saying___eq__.M.fn pass0) (pv 5) (pv 8) (nomark _)) (pa_cons (pe_cmpR (op_neO (ok_Saying___eq__ T D_Saying___eq__) (hr.mono (by decide)) D_Saying___eq__.b D_Saying___eq__.M.at_ D_Saying___eq__.M.fn T.ne_Saying T.o_Saying.o.hm pass0) (pv 8) (pv 5) (nomark _)) pa_nil))))) pa_nil)) pe_str (nomark _)) (pss_one (ps_ret pe_bl)) pss_nil)
    (pss_cons (ps_if (pt_val (pe_callB (cr_any rfl) rfl T.n_any boot_any (pa_cons (pe_lc (own := [("_law_odd", 11)]) (g := gName 11) (tt := tYes) rfl nd (pi_list (pe_lst (pa_cons pe_non (pa_cons pe_int (pa_cons (pv 3) (pa_cons (pe_meth0 (pv 5) T.o_Saying.o.cl D_Saying_triggers.M (ok_Saying_triggers T D_Saying_triggers) (hr.mono (by decide)) D_Saying_triggers.b .nil pass0) (pa_cons (pe_callB (call_reprO (ok_Saying___repr__ T D_Saying___repr__) hgd (hr.mono (by decide)) hr.units D_Saying___repr__.b D_Saying___repr__.M.at_ D_Saying___repr__.M.fn pass0) rfl T.n_repr boot_repr (pa_cons (pv 5) pa_nil)) (pa_cons (pe_make (T.o_Front.mkK' D_Front___init__) (ok_Front___init__ T D_Front___init__) (hr.mono (by decide)) rfl T.o_Front.g D_Front___init__.b .nil passN (pa_cons (pe_ix (r := rIxT K) ix_tup (pv 3) pe_int (by intro _ _; rfl)) pa_nil)) pa_nil)))))))) (blkOk_by (N := N_law_right) (sc := defScope s_law_right) (by decide +kernel)) (fun _ _ _ _ _ => pg_name (i := 11) nd rfl (Or.inl rfl)) (fun _ _ _ _ _ => pts_nil) (fun _ _ _ _ _ => (pe_cmpR (op_eqOK (K := K) rfl (ok_Saying___eq__ T D_Saying___eq__) (hr.mono (by decide)) D_Saying___eq__.b D_Saying___eq__.M.at_ D_Saying___eq__.M.fn pass0) (pv 5) (pv 11) (nomark _)))) pa_nil))) (pss_one (ps_ret pe_bl)) pss_nil)
    (pss_cons (ps_par (i := 9) (j := 10) rfl nd rfl rfl (by decide) rfl rfl (pa_cons (pe_meth (pv 5) T.o_Saying.o.cl D_Saying_with_triggers.M (ok_Saying_with_triggers T D_Saying_with_triggers) (hr.mono (by decide)) D_Saying_with_triggers.b .nil passN (pa_cons (pe_call (ok_law_mixed T D_law_mixed) (hr.mono (by decide)) rfl D_law_mixed.m D_law_mixed.F.kp D_law_mixed.b .nil pass0 (pa_cons (pv 0) (pa_cons (pe_ix (r := rIxT K) ix_tup (pv 4) pe_int (by intro _ _; rfl)) pa_nil))) pa_nil)) (pa_cons (pe_meth (pv 5) T.o_Saying.o.cl D_Saying_with_makes.M (ok_Saying_with_makes T D_Saying_with_makes) (hr.mono (by decide)) D_Saying_with_makes.b .nil passN (pa_cons (pe_call (ok_law_mixed T D_law_mixed) (hr.mono (by decide)) rfl D_law_mixed.m D_law_mixed.F.kp D_law_mixed.b .nil pass0 (pa_cons (pv 0) (pa_cons (pe_ix (r := rIxT K) ix_tup (pv 4) pe_int (by intro _ _; rfl)) pa_nil))) pa_nil)) pa_nil)) (by rfl))
    (pss_cons (ps_if (PW.pt (pw_or (pt_not (pt_val (pe_callG (ok_law_tells T D_law_tells) hgd (hr.mono (by decide)) rfl D_law_tells.m D_law_tells.F.kp D_law_tells.b .nil pass0 (pa_cons (pv 9) (pa_cons (pe_tup (pa_cons (pe_ix (r := rIxT K) ix_tup (pv 4) pe_int (by intro _ _; rfl)) (pa_cons (pe_ix (r := rIxT K) ix_tup (pv 3) pe_int (by intro _ _; rfl)) pa_nil))) pa_nil))))) (pw_or1 (pt_not (pt_val (pe_callG (ok_law_tells T D_law_tells) hgd (hr.mono (by decide)) rfl D_law_tells.m D_law_tells.F.kp D_law_tells.b .nil pass0 (pa_cons (pv 10) (pa_cons (pe_tup (pa_cons (pe_ix (r := rIxT K) ix_tup (pv 3) pe_int (by intro _ _; rfl)) (pa_cons (pe_ix (r := rIxT K) ix_tup (pv 4) pe_int (by intro _ _; rfl)) pa_nil))) pa_nil)))))))) (pss_one (ps_ret pe_bl)) pss_nil)
    (pss_one (ps_if (PW.pt (pw_or (pt_cmpR (op_neO (ok_Saying___eq__ T D_Saying___eq__) (hr.mono (by decide)) D_Saying___eq__.b D_Saying___eq__.M.at_ D_Saying___eq__.M.fn T.ne_Saying T.o_Saying.o.hm pass0) (pe_meth (pv 9) T.o_Saying.o.cl D_Saying_with_triggers.M (ok_Saying_with_triggers T D_Saying_with_triggers) (hr.mono (by decide)) D_Saying_with_triggers.b .nil passN (pa_cons (pe_ix (r := rIxT K) ix_tup (pv 3) pe_int (by intro _ _; rfl)) pa_nil)) (pv 5) (nomark _)) (pw_or (pt_cmpR (op_neO (ok_Saying___eq__ T D_Saying___eq__) (hr.mono (by decide)) D_Saying___eq__.b D_Saying___eq__.M.at_ D_Saying___eq__.M.fn T.ne_Saying T.o_Saying.o.hm pass0) (pe_meth (pv 10) T.o_Saying.o.cl D_Saying_with_makes.M (ok_Saying_with_makes T D_Saying_with_makes) (hr.mono (by decide)) D_Saying_with_makes.b .nil passN (pa_cons (pe_ix (r := rIxT K) ix_tup (pv 3) pe_int (by intro _ _; rfl)) pa_nil)) (pv 6) (nomark _)) (pw_or1 (pt_not (pt_val (pe_callG (ok_law_tells T D_law_tells) hgd (hr.mono (by decide)) rfl D_law_tells.m D_law_tells.F.kp D_law_tells.b .nil pass0 (pa_cons (pv 5) (pa_cons (pv 3) pa_nil))))))))) (pss_one (ps_ret pe_bl)) pss_nil))))))))))))))
    (pss_one (ps_ret pe_bl))), fun z ds hz hl hp => ?_⟩
  obtain rfl := hp
  refine x_seq (x_for (i_rng1 (a_cons (e_int (a_nil ⟨_, rfl, by decide, by decide, fun i ρ => ∃ (b1 b2 b3 b4 b5 b6 b7 b8 b9 b10 b11 : Sl), ρ = [.va .pot, b1, b2, b3, b4, b5, b6, b7, b8, b9, b10, b11], ⟨_, _, _, _, _, _, _, _, _, _, _, rfl⟩, ?_, ?_⟩)))))
  · rintro t _ _ ⟨b1, b2, b3, b4, b5, b6, b7, b8, b9, b10, b11, rfl⟩
    refine g_name ?_
    refine x_seq (x_asg (e_call (a_cons (e_var rfl (a_cons (e_op (e_int (e_call (a_cons (e_var rfl (a_cons (e_int (a_nil ⟨rfl, ⟨3, rfl, by decide, by decide⟩, ?_⟩)))))))))))))
    rintro _ ⟨_, q, e1, rfl, q0, q4⟩
    cases e1
    obtain ⟨n, rfl⟩ := Int.eq_ofNat_of_zero_le q0
    refine o_I0 ⟨_, _, rfl, rfl, a_nil ⟨rfl, ⟨n + 1, by show [D.pot, D.int (1 + (n : Int))] = _; rw [Int.add_comm]; rfl, by omega, by omega⟩, ?_⟩⟩
    rintro _ ⟨ss, rfl, hs, h7⟩
    have ps : preSs [.pot, .lst (ss.map D.str)] := ⟨ss, rfl, hs⟩
    refine g_name ?_
    refine x_seq (x_par (a_cons (e_call (a_cons (e_var rfl (a_cons (e_var rfl (a_nil ⟨rfl, ps, fun d h => ?_⟩))))))))
    obtain ⟨_, _, rfl, ⟨ws, rfl, tw, lw⟩, ⟨us, rfl, tu, lu⟩⟩ := h ss rfl
    refine a_cons (e_call (a_cons (e_var rfl (a_cons (e_var rfl (a_nil ⟨rfl, ps, fun d h => ?_⟩))))))
    obtain ⟨_, _, rfl, ⟨xs, rfl, tx, _⟩, ⟨ys, rfl, ty, _⟩⟩ := h ss rfl
    refine a_nil ⟨_, _, rfl, ?_⟩
    refine x_norm (ρ' := [.va .pot, .va (.int (t : Nat)), .va (.lst (ss.map D.str)), .va (sawD ws us), .va (sawD xs ys), b5, b6, b7, b8, b9, b10, b11]) rfl ?_
    have sv : ∀ {ρ : List (Option D)} {PP : D → Prop} {i : Nat} {n : Int} {X : D} {as bs : List (List Str)}, ρ[i]? = some (some (sawD as bs)) → atI [D.lst (as.map wd), .lst (bs.map wd)] n = some X → PP X → E1 z (tOp (rIxT K) (tVar i) (tC (.int n))) ρ PP := fun h1 h2 q => e_op (e_var h1 (e_int (o_ixT ⟨_, _, _, rfl, rfl, h2, q⟩)))
    refine x_seq (x_asg (v_say (v_mix rfl (sv (X := .lst (ws.map wd)) rfl rfl ⟨ws, rfl, tw, fun e1 w1 s1 p1 t1 => v_mix rfl (sv (X := .lst (us.map wd)) rfl rfl ⟨us, rfl, tu, fun e2 u1 s2 p2 t2 => ⟨w1, u1, s1, s2, t1, t2, fun oa ob i1 i2 => ?_⟩⟩)⟩))))
    have ia : IsOrd ws oa := i1.congr fun k => p1.mem_iff
    have ib : IsOrd us ob := i2.congr fun k => p2.mem_iff
    clear i1 i2 p1 p2 s1 s2
    have ta := tw.ord ia
    have tb := tu.ord ib
    refine g_name ?_
    refine x_seq (x_asg (v_sayK (v_mix rfl (sv (X := .lst (us.map wd)) rfl rfl ⟨us, rfl, tu, fun e2 u1 s2 p2 t2 => v_mix rfl (sv (X := .lst (ws.map wd)) rfl rfl ⟨ws, rfl, tw, fun e1 w1 s1 p1 t1 => ⟨w1, u1, s1, s2, t1, t2, fun oa' ob' i1 i2 => ?_⟩⟩)⟩))))
    have ea : oa' = oa := (i1.congr fun k => p1.mem_iff).unique ia
    have eb : ob' = ob := (i2.congr fun k => p2.mem_iff).unique ib
    subst ea eb
    clear i1 i2 p1 p2 s1 s2
    refine g_name ?_
    refine x_seq (x_asg (e_call (a_cons (e_var rfl (a_cons (e_var rfl (a_cons (e_var rfl (a_nil ⟨rfl, ⟨ss, ws, us, rfl, hs, h7, tw, tu, lw, lu⟩, fun d h => ?_⟩)))))))))
    obtain ⟨vs, ts, rfl, tv, tt, hne⟩ := h _ ws us rfl
    refine g_name ?_
    refine x_norm (ρ' := [.va .pot, .va (.int (t : Nat)), .va (.lst (ss.map D.str)), .va (sawD ws us), .va (sawD xs ys), .va (sayD K oa' ob'), .va (sayD K oa' ob'), .va (sawD vs ts), b8, b9, b10, b11]) rfl ?_
    refine x_seq (x_asg (v_say (sv (X := .lst (vs.map wd)) rfl rfl (sv (X := .lst (ts.map wd)) rfl rfl ⟨vs, ts, .inl rfl, .inl rfl, tv, tt, fun oc od ic id' => g_name ?_⟩))))
    have tc := tv.ord ic
    have td := tt.ord id'
    have nb : (decide (oa' = oc) && decide (ob' = od)) = false := by
      rw [Bool.eq_false_iff]
      intro hb
      obtain ⟨h1, h2⟩ := Bool.and_eq_true_iff.mp hb
      have h1 := of_decide_eq_true h1
      have h2 := of_decide_eq_true h2
      subst h1 h2
      exact hne ⟨fun k => (ic.mem k).symm.trans (ia.mem k), fun k => (id'.mem k).symm.trans (ib.mem k)⟩
    have nb2 : (decide (oc = oa') && decide (od = ob')) = false := by
      rw [Bool.eq_false_iff] at nb ⊢
      intro hb
      obtain ⟨h1, h2⟩ := Bool.and_eq_true_iff.mp hb
      exact nb (by rw [of_decide_eq_true h1, of_decide_eq_true h2]; simp)
    refine x_norm (ρ' := [.va .pot, .va (.int (t : Nat)), .va (.lst (ss.map D.str)), .va (sawD ws us), .va (sawD xs ys), .va (sayD K oa' ob'), .va (sayD K oa' ob'), .va (sawD vs ts), .va (sayD K oc od), b9, b10, b11]) rfl ?_
    have p1 : preTl K [sayD K oa' ob', sawD ws us] := ⟨oa', ob', ws, us, rfl, ia, ib, tw, tu⟩
    have p2 : preTl K [sayD K oc od, sawD vs ts] := ⟨oc, od, vs, ts, rfl, ic, id', tv, tt⟩
    refine x_seq (x_if (t_or (t_not (t_test (e_call (a_cons (e_var rfl (a_cons (e_var rfl (a_nil ⟨rfl, p1, ?_⟩))))))))))
    rintro _ rfl
    refine ⟨_, rfl, iteNB rfl (t_or (t_not (t_test (e_call (a_cons (e_var rfl (a_cons (e_var rfl (a_nil ⟨rfl, p1, ?_⟩)))))))))⟩
    rintro _ rfl
    refine ⟨_, rfl, iteNB rfl (t_not (t_test (e_call (a_cons (e_var rfl (a_cons (e_var rfl (a_nil ⟨rfl, p2, ?_⟩))))))))⟩
    rintro _ rfl
    refine ⟨_, rfl, iteNB rfl (x_next ?_)⟩
    refine x_seq (x_if (t_test (e_op (e_cb (a_cons (e_lst (a_cons (e_op (e_var rfl (e_var rfl (q_eq T ta tb ta tb ?_)))))))))))
    refine a_cons (e_op (e_var rfl (e_var rfl (q_ne T ta tb ta tb ?_))))
    refine a_cons (e_op (e_var rfl (e_var rfl (q_eq T ta tb tc td ?_))))
    refine a_cons (e_op (e_var rfl (e_var rfl (q_ne T tc td ta tb (a_nil ⟨sz rfl, ?_⟩)))))
    have e4 : [D.bl (decide (oa' = oa') && decide (ob' = ob')), .bl (!(decide (oa' = oa') && decide (ob' = ob'))), .bl (decide (oa' = oc) && decide (ob' = od)), .bl (!(decide (oc = oa') && decide (od = ob')))] = [.bl true, .bl false, .bl false, .bl true] := by
      rw [nb, nb2]
      simp
    rw [e4]
    refine a_nil (o_reprL (fun d hd => ?_) (by decide) (e_str ?_))
    · rcases List.mem_cons.mp hd with rfl | hd
      · exact small_bl _
      rcases List.mem_cons.mp hd with rfl | hd
      · exact small_bl _
      rcases List.mem_cons.mp hd with rfl | hd
      · exact small_bl _
      rw [List.mem_singleton.mp hd]
      exact small_bl _
    rw [four_shown]
    refine o_neS ⟨_, rfl, iteNB (by simp) (x_next ?_)⟩
    refine x_seq (x_if (t_test (e_cb (a_cons (e_lcG rfl (i_list (e_lst (a_cons (e_non (a_cons (e_int (a_cons (e_var rfl ?_)))))))))))))
    refine a_cons (e_ofNew (n_meth (e_var rfl ⟨_, rfl, rfl, a_nil ⟨rfl, ⟨oa', ob', rfl, ta, tb⟩, fun es h => h _ _ rfl⟩⟩)) ?_)
    rintro _ rfl
    refine a_cons (e_cb (a_cons (e_var rfl (a_nil (o_reprO ⟨_, rfl, ⟨oa', ob', rfl, ta, tb⟩, fun e h => ⟨_, h _ _ rfl, ?_⟩⟩ T.o_Saying.o)))))
    refine a_cons (v_front (sv (X := .lst (ws.map wd)) rfl rfl ⟨ws, rfl, tw, fun os io => a_nil ⟨sz rfl, ?_⟩⟩))
    have odds : ∀ x ∈ [D.non, .int 0, sawD ws us, .lst (oa'.map wd), .str (shS oa' ob'), frD K os], Oth K x ∧ ∀ oc od, x ≠ sayD K oc od := fun x hx => by
      rcases List.mem_cons.mp hx with rfl | hx
      · exact ⟨⟨_, tyIs_of rfl, T.kt_NoneType_Saying⟩, fun _ _ h => by cases h⟩
      rcases List.mem_cons.mp hx with rfl | hx
      · exact ⟨⟨_, tyIs_of rfl, T.kt_int_Saying⟩, fun _ _ h => by cases h⟩
      rcases List.mem_cons.mp hx with rfl | hx
      · exact ⟨⟨_, tyIs_of rfl, T.kt_tuple_Saying⟩, fun _ _ h => by cases h⟩
      rcases List.mem_cons.mp hx with rfl | hx
      · exact ⟨⟨_, tyIs_of rfl, T.kt_list_Saying⟩, fun _ _ h => by cases h⟩
      rcases List.mem_cons.mp hx with rfl | hx
      · exact ⟨⟨_, tyIs_of rfl, T.kt_str_Saying⟩, fun _ _ h => by cases h⟩
      rw [List.mem_singleton.mp hx]
      exact ⟨⟨_, tyIs_obj T.o_Front.o, T.k_Front_Saying⟩, fun _ _ => fr_ne⟩
    refine ⟨_, rfl, by simp, fun _ => .bl false, ?_, ?_⟩
    · rintro n hn _ rfl
      have hm : [D.non, .int 0, sawD ws us, .lst (oa'.map wd), .str (shS oa' ob'), frD K os].getD n .non ∈ [D.non, .int 0, sawD ws us, .lst (oa'.map wd), .str (shS oa' ob'), frD K os] := by
        rw [List.getD_eq_getElem?_getD, List.getElem?_eq_getElem hn]
        exact List.getElem_mem hn
      obtain ⟨o1, o2⟩ := odds _ hm
      exact e_op (e_var rfl (e_var (at_slot rfl) (q_odd ta tb o1 o2 rfl)))
    refine a_nil (o_any ⟨List.replicate 6 false, rfl, _, rfl, iteNB rfl (x_next ?_)⟩)
    refine x_seq (x_par (a_cons (v_wt (i := 5) rfl ta tb (ord_self ib) (v_mix rfl (sv (i := 4) (X := .lst (xs.map wd)) rfl rfl ⟨xs, rfl, tx, fun e1 x1 s1 p1 t1 => ⟨x1, s1, t1, fun ox i1 => ?_⟩⟩)))))
    have ix : IsOrd xs ox := i1.congr fun k => p1.mem_iff
    clear i1 p1 s1
    refine a_cons (v_wm (i := 5) rfl ta tb (ord_self ia) (v_mix rfl (sv (i := 4) (X := .lst (ys.map wd)) rfl rfl ⟨ys, rfl, ty, fun e1 y1 s1 p1 t1 => ⟨y1, s1, t1, fun oy i1 => ?_⟩⟩)))
    have iy : IsOrd ys oy := i1.congr fun k => p1.mem_iff
    clear i1 p1 s1
    refine a_nil ⟨_, _, rfl, ?_⟩
    have txo := tx.ord ix
    have tyo := ty.ord iy
    refine x_norm (ρ' := [.va .pot, .va (.int (t : Nat)), .va (.lst (ss.map D.str)), .va (sawD ws us), .va (sawD xs ys), .va (sayD K oa' ob'), .va (sayD K oa' ob'), .va (sawD vs ts), .va (sayD K oc od), .va (sayD K ox ob'), .va (sayD K oa' oy), b11]) rfl ?_
    have p3 : preTl K [sayD K ox ob', sawD xs us] := ⟨ox, ob', xs, us, rfl, ix, ib, tx, tu⟩
    have p4 : preTl K [sayD K oa' oy, sawD ws ys] := ⟨oa', oy, ws, ys, rfl, ia, iy, tw, ty⟩
    refine x_seq (x_if (t_or (t_not (t_test (e_call (a_cons (e_var rfl (a_cons (e_tup (a_cons (sv (i := 4) (X := .lst (xs.map wd)) rfl rfl (a_cons (sv (i := 3) (X := .lst (us.map wd)) rfl rfl (a_nil ⟨sz rfl, a_nil ⟨rfl, p3, ?_⟩⟩))))))))))))))
    rintro _ rfl
    refine ⟨_, rfl, iteNB rfl (t_not (t_test (e_call (a_cons (e_var rfl (a_cons (e_tup (a_cons (sv (i := 3) (X := .lst (ws.map wd)) rfl rfl (a_cons (sv (i := 4) (X := .lst (ys.map wd)) rfl rfl (a_nil ⟨sz rfl, a_nil ⟨rfl, p4, ?_⟩⟩))))))))))))⟩
    rintro _ rfl
    refine ⟨_, rfl, iteNB rfl (x_next ?_)⟩
    refine x_if (t_or (t_test (e_op (v_wt (i := 9) rfl txo tb (ord_self ib) (sv (i := 3) (X := .lst (ws.map wd)) rfl rfl ⟨ws, .inl rfl, tw, fun o1 i1 => ?_⟩)))))
    have e1 := i1.unique ia
    subst e1
    refine e_var rfl (q_ne T ta tb ta tb ⟨_, rfl, iteNB (by simp) ?_⟩)
    refine t_or (t_test (e_op (v_wm (i := 10) rfl ta tyo (ord_self ia) (sv (i := 3) (X := .lst (us.map wd)) rfl rfl ⟨us, .inl rfl, tu, fun o2 i2 => ?_⟩))))
    have e1 := i2.unique ib
    subst e1
    refine e_var rfl (q_ne T ta tb ta tb ⟨_, rfl, iteNB (by simp) ?_⟩)
    refine t_not (t_test (e_call (a_cons (e_var rfl (a_cons (e_var rfl (a_nil ⟨rfl, p1, ?_⟩)))))))
    rintro _ rfl
    exact ⟨_, rfl, iteNB rfl (x_next ⟨_, _, _, _, _, _, _, _, _, _, _, rfl⟩)⟩
  · rintro _ ⟨b1, b2, b3, b4, b5, b6, b7, b8, b9, b10, b11, rfl⟩
    exact x_ret (e_bl rfl)
abbrev N_law : List Str := ["_law_script", "_law_at"]
theorem sc_law : FnScope N_law ["_law_script"] (defScope s_law) := ⟨rfl, rfl, rfl, by decide +kernel, rfl, by decide +kernel, by decide +kernel⟩
theorem ok_law (T : Txt P w K mg base Tb) {f : Addr} {fd : FuncData} (Dd : Df K mg "law" s_law ["_law_script"] f fd) : FnG P w K mg base CX0 15 f fd ["_law_script"] (spLaw Tb K) := by
  obtain ⟨f__law_pot, fd__law_pot, D_law_pot⟩ := T.d__law_pot
  obtain ⟨f__law_right, fd__law_right, D_law_right⟩ := T.d__law_right
  refine okG Dd.F sc_law (fun vs H Q E q => by obtain ⟨a, ns, rfl, _⟩ := q; rfl) (fun cdv A outer s H vs Q E hgd hr h => ?_)
  have nd := sc_law.nd
  obtain ⟨a, ns, rfl, hS, hP, q⟩ := h
  refine ⟨_, (pss_one (ps_ret (pe_callB (cr_all rfl) rfl T.n_all boot_all (pa_cons (pe_lc (own := [("_law_at", 1)]) (g := gName 1) (tt := tYes) rfl nd (pi_range1 rfl T.n_range (pa_cons (pe_callB (call_max2 rfl) rfl T.n_max boot_max (pa_cons pe_int (pa_cons (pe_callB (call_min2 rfl) rfl T.n_min boot_min (pa_cons (pe_lenK (K := K) rfl rfl T.n_len (pa_cons (pv 0) pa_nil)) (pa_cons pe_int pa_nil))) pa_nil))) pa_nil)) (blkOk_by (N := N_law) (sc := defScope s_law) (by decide +kernel)) (fun _ _ _ _ _ => pg_name (i := 1) nd rfl (Or.inl rfl)) (fun _ _ _ _ _ => pts_nil) (fun _ _ _ _ _ => (pe_callG (ok_law_right T D_law_right) hgd (hr.mono (by decide)) rfl D_law_right.m D_law_right.F.kp D_law_right.b .nil pass0 (pa_cons (pe_call (ok_law_pot T D_law_pot) (hr.mono (by decide)) rfl D_law_pot.m D_law_pot.F.kp D_law_pot.b .nil pass0 (pa_cons (pv 0) (pa_cons (pv 1) pa_nil))) pa_nil)))) pa_nil)))), ?_⟩
  refine ⟨_, rfl, _, _, rfl, .inl ⟨_, hS, rfl⟩, _, _, rfl, _, _, rfl, _, rfl, ?_, ?_, fun Dl nD => ?_⟩
  · split <;> (try split) <;> omega
  · split <;> (try split) <;> omega
  refine lc_pots ?_ hS hP nD fun H' h' => ?_
  · split <;> (try split) <;> omega
  refine ⟨Dl, _, rfl, .inl (.inl (h'.trans (by rw [← List.map_replicate (f := V.bl)]))), ?_⟩
  have e : ∀ n : Nat, (List.replicate n true).all id = true := fun n => by
    rw [List.all_eq_true]
    intro b hb
    rw [(List.mem_replicate.mp hb).2]
    rfl
  rw [e]
  exact q _
end
end K21

set_option Elab.async false
set_option linter.all false
set_option maxRecDepth 100000
set_option maxHeartbeats 4000000
/-! PHT: the head by one run, with tables of code objects: they are empty, and not among what is leant on; the law's call in that state. -/
namespace PHT
open PySem PySem.Spec PyProof.Rows L2 PD
def reach (g : Addr → Option Obj) (n : Nat) : List Addr := He.asG g n ++ [cStatics]
def obsK (B : PySem.W.Frag → Bool) (fn : List He.FnD) (tf : List He.Defn) (g : Addr → Option Obj) (K : PySem.W.Frag) : Bool × List He.FnV := (B K && He.tabsB g tf K, fn.map fun d => He.fnObs K d.at_)
def obs (n : Nat) (B : PySem.W.Frag → Bool) (fn : List He.FnD) (tf : List He.Defn) (g : Addr → Option Obj) : Bool × List He.FnV := obsK B fn tf g (He.frT g (reach g n))
/-- what is told of the part K of the heap -/
structure Says (B : PySem.W.Frag → Bool) (fn : List He.FnD) (tf : List He.Defn) (h : Heap) (K : PySem.W.Frag) : Prop where
  into : K.In h
  b : B K = true
  fns : fn.map (fun d => He.fnObs K d.at_) = fn.map He.FnD.val
  hd : ∀ p ∈ tf, PySem.W.codeHdIn K (He.cT K p).1 (He.cT K p).2 = true
  out : ∀ p ∈ tf, K.lookup (He.cT K p).2 = none
  empty : ∀ p ∈ tf, h.get? (He.cT K p).2 = some { cls := .none, data := .fields #[] }
theorem says_of {n : Nat} {B : PySem.W.Frag → Bool} {fn : List He.FnD} {tf : List He.Defn} {h : Heap} (e : obs n B fn tf h.get? = (true, fn.map He.FnD.val)) : Says B fn tf h (He.frT h.get? (reach h.get? n)) := by
  unfold obs obsK at e
  have e1 := congrArg (fun z : Bool × List He.FnV => z.1) e
  have e2 := congrArg (fun z : Bool × List He.FnV => z.2) e
  have e1 : (B (He.frT h.get? (reach h.get? n)) && He.tabsB h.get? tf (He.frT h.get? (reach h.get? n))) = true := e1
  obtain ⟨h1, h2⟩ := Bool.and_eq_true_iff.mp e1
  have key : ∀ p ∈ tf, PySem.W.codeHdIn (He.frT h.get? (reach h.get? n)) (He.cT (He.frT h.get? (reach h.get? n)) p).1 (He.cT (He.frT h.get? (reach h.get? n)) p).2 = true ∧ ∃ o, h.get? (He.cT (He.frT h.get? (reach h.get? n)) p).2 = some o ∧ He.emptyTab o = true := fun p hp => by
    obtain ⟨h3, h4⟩ := Bool.and_eq_true_iff.mp (List.all_eq_true.mp h2 p hp)
    refine ⟨h3, ?_⟩
    split at h4
    · rename_i o q
      exact ⟨o, q, h4⟩
    · cases h4
  exact ⟨He.frT_in, h1, e2, fun p hp => (key p hp).1, fun p hp => (let ⟨o, q, z⟩ := (key p hp).2; He.frT_none q z), fun p hp => (let ⟨o, q, z⟩ := (key p hp).2; q.trans (congrArg some (He.emptyTab_eq z)))⟩
def hook (n : Nat) (B : PySem.W.Frag → Bool) (fn : List He.FnD) (tf : List He.Defn) : PySem.W.Hook where
  α := Bool × List He.FnV
  obs := fun s => obs n B fn tf s.heap.get?
  val := fun _ => (true, fn.map He.FnD.val)
  says := fun _ h => ∃ K, Says B fn tf h K
  of := fun _ _ e => ⟨_, says_of e⟩
  keeps := fun _ _ _ ⟨K, c⟩ k => ⟨K, PySem.W.Frag.In.keeps c.into k, c.b, c.fns, c.hd, c.out, fun p hp => k _ _ (c.empty p hp)⟩
theorem obs_eq {n : Nat} {B : PySem.W.Frag → Bool} {fn : List He.FnD} {tf : List He.Defn} (s : PySem.W.SharedT) : obs n B fn tf (HandSHeadRun.getT s) = (hook n B fn tf).obs s.abs := by
  have e : HandSHeadRun.getT s = s.abs.heap.get? := funext fun a => HandSHeadRun.getT_eq s a
  rw [e]
  rfl
theorem fn_at {fn : List He.FnD} {K : PySem.W.Frag} (e : fn.map (fun d => He.fnObs K d.at_) = fn.map He.FnD.val) (i : Nat) {d : He.FnD} (h : fn[i]? = some d) : He.fnObs K d.at_ = d.val := by
  have e2 : (fn.map fun d => He.fnObs K d.at_)[i]? = (fn.map He.FnD.val)[i]? := by rw [e]
  rw [List.getElem?_map, List.getElem?_map, h] at e2
  exact Option.some.inj e2
/-- the law's call, the tables tracked -/
theorem lawGT {P : Program} {w : World} {K : PySem.W.Frag} {mg mb : Str → Option Value} {k : Nat} {fa a : Addr} {fd : FuncData} {x : Str} {sp : Sp} {cs : List (Addr × Addr)} {s₁ : Shared} {vs : List Value} {ns : List Int}
    (KX : K.In s₁.heap) (hns : s₁.heap.Ns mainGlobals mg) (hb : s₁.heap.Ns builtinsNs mb) (hbb : ∀ x : Str, x ≠ "__name__" → mb x = bootBuiltins x) (hlim : s₁.heap.NoLimit) (hg : s₁.gens = #[])
    (hT : ∀ p ∈ cs, s₁.heap.get? p.2 = some { cls := .none, data := .fields #[] }) (nT : ∀ p ∈ cs, K.lookup p.2 = none) (hC : ∀ p ∈ cs, PySem.W.CodeHd s₁.heap p.1 p.2)
    (hbm : ∃ (bm : Addr) (ob : Obj), mg "__builtins__" = some (.ref bm) ∧ bm ≠ builtinsNs ∧ s₁.heap.get? bm = some ob ∧ ob.cls = .type "module" ∧ ob.dict = some builtinsNs ∧ ob.data = .plain)
    (ha : s₁.heap.get? a = some { cls := .type "list", data := .seq vs.toArray }) (hi : IntsAre vs ns) (hl : ns.length ≤ sizeLine) (hr : Room k callerA)
    (F : ∀ base : Heap, K.In base → base.Ns mainGlobals mg → (∀ p ∈ cs, LamX.TabB base mg p.1 p.2) → FnG P w K mg base CX0 k fa fd [x] sp) (hbind : ∀ (s : Shared) (u : Value), BindsTo s fd ⟨[u], []⟩ [(x, u)])
    (hsp : ∀ H : Hp, (∀ p ∈ cs, H p.2 = some (.tbl #[])) → (∀ b ps, H b = some (.tbl ps) → ∃ p ∈ cs, b = p.2) → SqL K H a (ns.map V.int) → sp [.ref a] H (fun v _ => v = .bl true) fun _ _ _ => False) :
    codeAny (model P w) callerA (.call (.ref fa) ⟨[.ref a], []⟩) (fun r s' => r = .ok (.ret (.bool true)) ∧ OldK s₁.heap s'.heap ∧ s'.os = s₁.os ∧ AllBare s'.gens) s₁ := by
  have rv := vals_ints hi
  let fz : HO := .frz { cls := .type "list", data := .seq vs.toArray } (.lst (ns.map V.int))
  let H : Hp := fun b => if b = a ∧ K.lookup a = none then some fz else if b ∈ cs.map (·.2) then some (.tbl #[]) else none
  have tabAt : ∀ {b : Addr}, b ∈ cs.map (·.2) → ∃ p ∈ cs, b = p.2 ∧ s₁.heap.get? b = some { cls := .none, data := .fields #[] } ∧ K.lookup b = none := fun {b} hm => by
    obtain ⟨p, hp, rfl⟩ := List.mem_map.mp hm
    exact ⟨p, hp, rfl, hT p hp, nT p hp⟩
  have aT : a ∉ cs.map (·.2) := fun hm => by
    obtain ⟨_, _, _, e, _⟩ := tabAt hm
    rw [ha] at e
    have e2 : Data.seq vs.toArray _ = Data.fields #[] := congrArg Obj.data (Option.some.inj e)
    cases e2
  have hH : ∀ b u, H b = some u → (b = a ∧ K.lookup a = none ∧ u = fz) ∨ (b ∈ cs.map (·.2) ∧ u = .tbl #[]) := fun b u q => by
    have q : (if b = a ∧ K.lookup a = none then some fz else if b ∈ cs.map (·.2) then some (.tbl #[]) else none) = some u := q
    split at q
    · rename_i c
      exact .inl ⟨c.1, c.2, (Option.some.inj q).symm⟩
    · split at q
      · rename_i c
        exact .inr ⟨c, (Option.some.inj q).symm⟩
      · cases q
  have tabH : ∀ p ∈ cs, H p.2 = some (.tbl #[]) := fun p hp => by
    have hm : p.2 ∈ cs.map (·.2) := List.mem_map.mpr ⟨p, hp, rfl⟩
    show (if p.2 = a ∧ K.lookup a = none then some fz else if p.2 ∈ cs.map (·.2) then some (HO.tbl #[]) else none) = _
    rw [if_neg (fun c => aT (by rw [← c.1]; exact hm)), if_pos hm]
  have hS : SqL K H a (ns.map V.int) := by
    cases q : K.lookup a with
    | none => exact .inl (.inr ⟨_, if_pos ⟨rfl, q⟩⟩)
    | some o =>
      have e := KX a o q
      rw [ha] at e
      cases e
      exact .inr ⟨_, vs.toArray, _, q, rfl, rfl, rfl, by rw [List.size_toArray, hi.length]; exact hl, by simpa using rv⟩
  have hok : HOk P w H s₁.heap := fun b u q => by
    rcases hH b u q with ⟨rfl, _, rfl⟩ | ⟨hm, rfl⟩
    · exact ⟨ha, by rw [List.length_map]; exact hl, vs, _, rv, ha⟩
    · obtain ⟨_, _, _, e, _⟩ := tabAt hm
      exact e
  -- what is neither a list nor an empty record is not tracked
  have off : ∀ {b : Addr} {o : Obj}, s₁.heap.get? b = some o → (∀ vs n, o.data ≠ .seq vs n) → o.data ≠ .fields #[] → H b = none := fun {b o} e h1 h2 => by
    cases q : H b with
    | none => rfl
    | some u =>
      rcases hH b u q with ⟨rfl, _⟩ | ⟨hm, _⟩
      · rw [ha] at e
        cases e
        exact (h1 _ _ rfl).elim
      · obtain ⟨_, _, _, e', _⟩ := tabAt hm
        rw [e'] at e
        cases e
        exact (h2 rfl).elim
  have offDict : ∀ {b : Addr} {o : Obj} {es : Array DictEntry} {ep : Nat}, s₁.heap.get? b = some o → o.data = .dict es ep → H b = none := fun e d => off e (fun _ _ z => by rw [d] at z; cases z) fun z => by rw [d] at z; cases z
  have nsB : ∀ {b : Addr} {m : Str → Option Value}, s₁.heap.Ns b m → (hidT s₁.heap H).Ns b m := fun {b m} ⟨o, es, ep, e, d, r⟩ => ⟨o, es, ep, hidT_get e (offDict e d), d, r⟩
  have kinB : K.In (hidT s₁.heap H) := fun b o e => hidT_get (KX b o e) (by
    cases q : H b with
    | none => rfl
    | some u =>
      rcases hH b u q with ⟨rfl, q2, _⟩ | ⟨hm, _⟩
      · rw [q2] at e
        cases e
      · obtain ⟨_, _, _, _, q2⟩ := tabAt hm
        rw [q2] at e
        cases e)
  have md : Mod K mg (hidT s₁.heap H) := ⟨kinB, nsB hns, ⟨mb, nsB hb, hbb⟩, let ⟨mc, h1, h2⟩ := hlim; ⟨mc, nsB h1, h2⟩⟩
  have tb : ∀ p ∈ cs, LamX.TabB (hidT s₁.heap H) mg p.1 p.2 := fun p hp => by
    have eP := hT p hp
    refine ⟨?_, ?_, fun z => ?_⟩
    · obtain ⟨o, us, file, tf, flags, tg, inF, text, tt, e1, r1, r2, r3, rest⟩ := hC p hp
      refine ⟨o, us, file, tf, flags, tg, inF, text, tt, hidT_get e1 (off e1 (fun _ _ z => by rw [r2] at z; cases z) fun z => ?_), r1, r2, r3, rest⟩
      rw [r2] at z
      cases z
      simp at r3
    · obtain ⟨bm, ob, b1, b2, b3, b4, b5, b6⟩ := hbm
      refine ⟨bm, ob, b1, b2, fun q => ?_, fun q => ?_, hidT_get b3 (off b3 (fun _ _ z => by rw [b6] at z; cases z) fun z => by rw [b6] at z; cases z), b4, b5, b6⟩
      · obtain ⟨o, es, ep, e, hd, _⟩ := hns
        rw [q, e] at b3
        cases b3
        rw [hd] at b6
        cases b6
      · rw [q, eP] at b3
        cases b3
        cases b6
    · obtain ⟨o, es, ep, e, hd, _⟩ := hns
      rw [z, eP] at e
      cases e
      cases hd
  have e0 : Env0 P w K mg (hidT s₁.heap H) callerA [] s₁ H := ⟨rfl, md, fun b o e => of_hidT e, Nat.le_of_eq (hidT_size _ _), trivial, fun b hb => absurd (show b ∈ ([] : List Addr) from hb) (by simp), hok, .of_eq hg⟩
  have onlyT : ∀ b ps, H b = some (.tbl ps) → ∃ p ∈ cs, b = p.2 := fun b ps q => by
    rcases hH b _ q with ⟨_, _, z⟩ | ⟨hm, _⟩
    · exact ((show HO.tbl ps ≠ HO.frz { cls := .type "list", data := .seq vs.toArray } (.lst (ns.map V.int)) from fun z => by cases z) z).elim
    · obtain ⟨p, hp, e, _⟩ := tabAt hm
      exact ⟨p, hp, e⟩
  refine codeAny_mono ((F _ kinB (nsB hns) tb).run callerA [] s₁ H ⟨[.ref a], []⟩ [.ref a] [.ref a] _ _ rfl hr e0 (hbind s₁ (.ref a)) (.cons rfl .nil) (hsp H tabH onlyT hS)) fun r s' h => ?_
  cases r with
  | error e => exact False.elim h
  | ok fl =>
    cases fl with
    | next => exact False.elim h
    | brk => exact False.elim h
    | cont => exact False.elim h
    | ret u =>
      obtain ⟨v, H', os, bare, un, hok', r', q⟩ := h
      have q' : v = .bl true := q
      subst q'
      obtain rfl : u = Value.bool true := r'
      have stays : ∀ b o, b ∉ cs.map (·.2) → s₁.heap.get? b = some o → s'.heap.get? b = some o := fun b o nb e => by
        cases q : H b with
        | none => exact un.keep b o e q (by intro y; exact absurd (show b ∈ ([] : List Addr) from y) (by simp)) (by simp)
        | some u =>
          rcases hH b u q with ⟨rfl, _, rfl⟩ | ⟨hm, _⟩
          · obtain ⟨e2, _⟩ := hok' b _ (un.frzs b _ _ q)
            rw [ha] at e
            cases e
            exact e2
          · exact absurd hm nb
      have grown : ∀ p ∈ cs, ∃ more : Array Value, s'.heap.get? p.2 = some { cls := .none, data := .fields more } := fun p hp => by
        obtain ⟨more, z⟩ := un.tbls p.2 #[] (tabH p hp)
        exact ⟨_, hok' p.2 _ z⟩
      refine ⟨rfl, ⟨fun b o e => ?_, fun b o e => ?_⟩, os, bare⟩
      · by_cases hb : b ∈ cs.map (·.2)
        · obtain ⟨p, hp, rfl⟩ := List.mem_map.mp hb
          obtain ⟨more, hm⟩ := grown p hp
          rw [hT p hp] at e
          cases e
          exact .inr (.inl ⟨((hC p hp).tab (hT p hp)).isCodeTable, rfl, #[], more, rfl, by rw [Array.empty_append]; exact hm⟩)
        · exact .inl (stays b o hb e)
      · by_cases hb : b ∈ cs.map (·.2)
        · obtain ⟨p, hp, rfl⟩ := List.mem_map.mp hb
          obtain ⟨more, hm⟩ := grown p hp
          exact ⟨_, hm⟩
        · exact ⟨o, stays b o hb e⟩
/-- the walk's end -/
theorem walk {l : PySem.W.OpenLaw} {n k : Nat} {q : Program} {loose : List Str} {XP : (Str → Option Value) → Heap → Prop} {YP : World → Heap → Prop} {d : DefRec} {x : Str}
    (hn : l.most = some n) (hn2 : n ≤ sizeLine) (hdf : d.params.defaults = []) (hr : Room k callerA)
    (F : ∀ (w : World) (mg : Str → Option Value) (fa : Addr) (h : Heap), YP w h → h.Ns mainGlobals mg → mg d.name = some (.ref fa) →
      ∃ (K : PySem.W.Frag) (cs : List (Addr × Addr)) (fd : FuncData) (sp : Sp), K.In h ∧ (∀ p ∈ cs, h.get? p.2 = some { cls := .none, data := .fields #[] }) ∧ (∀ p ∈ cs, K.lookup p.2 = none) ∧ (∀ p ∈ cs, PySem.W.CodeHd h p.1 p.2) ∧ (∀ (s : Shared) (u : Value), BindsTo s fd ⟨[u], []⟩ [(x, u)]) ∧
        (∀ (H : Hp) (a : Addr) (ns : List Int), ns.length ≤ n → (∀ p ∈ cs, H p.2 = some (.tbl #[])) → (∀ b ps, H b = some (.tbl ps) → ∃ p ∈ cs, b = p.2) → SqL K H a (ns.map V.int) → sp [.ref a] H (fun v _ => v = .bl true) fun _ _ _ => False) ∧
        ∀ base : Heap, K.In base → base.Ns mainGlobals mg → (∀ p ∈ cs, LamX.TabB base mg p.1 p.2) → FnG l.prog w K mg base CX0 k fa fd [x] sp) :
    PySem.W.WalkO q loose XP YP l.row.toRowW d [] (fun f vs => PySem.call f vs) := by
  refine Att.attach_call hn hdf fun w s₀ s₁ mg mb fa o pm cd doc a vs ns G Y ho hd hcd hmg hobj hints hlen hg => ?_
  obtain ⟨K, cs, fd, sp, KX, hT, nT, hC, hb, hsp, hF⟩ := F w mg fa _ Y G.T.g hmg
  exact lawGT KX G.T.g G.T.b G.T.builtins G.T.nolimit hg hT nT hC G.T.bmain hobj hints (Nat.le_trans hlen hn2) hr hF hb (fun H h1 h2 hS => hsp H a ns hlen h1 h2 hS)
/-- the tables by their defs' names -/
def tabs (K : PySem.W.Frag) (tf : List He.Defn) : List (Addr × Str) := tf.map fun p => ((He.cT K p).2, p.1 ++ ".<locals>." ++ "<lambda>")
theorem tab_one {K : PySem.W.Frag} {tf : List He.Defn} (nd : (tf.map fun p => (He.cT K p).2).Nodup) {d : He.Defn} (hd : d ∈ tf) : ∀ p ∈ tabs K tf, p.1 = (He.cT K d).2 → p.2 = d.1 ++ ".<locals>." ++ "<lambda>" := fun p hp e => by
  obtain ⟨c, hc, rfl⟩ := List.mem_map.mp hp
  have key : ∀ {tf : List He.Defn}, (tf.map fun p => (He.cT K p).2).Nodup → c ∈ tf → d ∈ tf → (He.cT K c).2 = (He.cT K d).2 → c = d := by
    intro tf
    induction tf with
    | nil => intro _ h; cases h
    | cons x tf ih =>
      intro n h1 h2 e
      obtain ⟨n1, n2⟩ := List.nodup_cons.mp n
      rcases List.mem_cons.mp h1 with e1 | h1
      · rcases List.mem_cons.mp h2 with e2 | h2
        · rw [e1, e2]
        · exact absurd (List.mem_map.mpr ⟨d, h2, by rw [← e1]; exact e.symm⟩) n1
      · rcases List.mem_cons.mp h2 with e2 | h2
        · exact absurd (List.mem_map.mpr ⟨c, h1, by rw [← e2]; exact e⟩) n1
        · exact ih n2 h1 h2 e
  rw [key nd hc hd e]
theorem tabs_pot {K : PySem.W.Frag} {tf : List He.Defn} {H : Hp} (h1 : ∀ p ∈ tf.map (He.cT K), H p.2 = some (.tbl #[])) (h2 : ∀ b ps, H b = some (.tbl ps) → ∃ p ∈ tf.map (He.cT K), b = p.2) : PotAt ⟨none, tabs K tf⟩ H := by
  refine ⟨fun _ h => (by cases h), fun t ht => ?_, fun b ps hb => ?_⟩
  · obtain ⟨d, hd, rfl⟩ := List.mem_map.mp ht
    exact LamX.TabS.nil (h1 _ (List.mem_map.mpr ⟨d, hd, rfl⟩))
  · obtain ⟨p, hp, rfl⟩ := h2 b ps hb
    obtain ⟨d, hd, rfl⟩ := List.mem_map.mp hp
    exact ⟨_, List.mem_map.mpr ⟨d, hd, rfl⟩⟩
end PHT

set_option Elab.async false
set_option linter.all false
set_option maxRecDepth 100000
set_option maxHeartbeats 4000000
/-! PHU: the head by one run, defs told by their addresses: also those of classmethods, of properties, and those with defaults. -/
namespace PHU
open PySem PySem.Spec PyProof.Rows L2 PD
/-- where a def stands: a global's or a class's method (mode "m"), a classmethod's ("c"), a property's ("p") -/
inductive Md where
  | m
  | c
  | p
structure FnU where
  at_ : He.Defn
  md : Md
  de : Bool
  name : Str
  qual : Str
  params : Arguments
  body : List Stmt
  scope : Scope
def recF (K : PySem.W.Frag) (p : Addr) (n : String) : Addr := match PySem.W.recIn K p n with
  | some (.ref g :: _) => g
  | _ => 0
def adr (K : PySem.W.Frag) (p : He.Defn) : Md → Addr
  | .m => He.fAd K p
  | .c => recF K (He.fAd K p) "classmethod"
  | .p => recF K (He.fAd K p) "property"
def obsF (K : PySem.W.Frag) (a : Addr) (de : Bool) : He.FnV := match K.lookup a with
  | some ⟨_, _, .func fd, _⟩ => some (fd.name, fd.qualname, fd.params, fd.body, fd.scope, fd.globals, fd.closure, (if de then .none else fd.defaults), fd.builtins)
  | _ => none
def FnU.obs (K : PySem.W.Frag) (d : FnU) : He.FnV := obsF K (adr K d.at_ d.md) d.de
def FnU.val (d : FnU) : He.FnV := some (d.name, d.qual, d.params, .stmts d.body, d.scope, mainGlobals, [], .none, builtinsNs)
def codeB (K : PySem.W.Frag) (a : Addr) (q : Str) : Bool := match K.lookup a with
  | some ⟨_, _, .func fd, _⟩ => PySem.W.codeIn K fd.code q
  | _ => false
theorem fnE_ok {K : PySem.W.Frag} {d : FnU} (e : d.obs K = d.val) (c : codeB K (adr K d.at_ d.md) d.qual = true) :
    ∃ oc od osl dV kV doc pm an cdv ct, K.lookup (adr K d.at_ d.md) = some ⟨oc, od, .func (PySem.W.fnOf d.name d.qual d.params d.body d.scope dV kV doc pm an cdv ct), osl⟩ ∧ PySem.W.codeIn K cdv d.qual = true ∧ (d.de = false → dV = .none) := by
  unfold FnU.obs obsF at e
  unfold codeB at c
  cases q : K.lookup (adr K d.at_ d.md) with
  | none =>
    rw [q] at c
    cases c
  | some o =>
    obtain ⟨oc, od, dt, osl⟩ := o
    rw [q] at c e
    cases dt with
    | func fd =>
      obtain ⟨n1, n2, n3, n4, n5, n6, n7, n8, n9, n10, n11, n12, n13, n14, n15⟩ := fd
      have e2 : (some (n1, n2, n3, n4, n5, n6, n7, (if d.de then Value.none else n8), n15) : He.FnV) = some (d.name, d.qual, d.params, .stmts d.body, d.scope, mainGlobals, [], .none, builtinsNs) := e
      simp only [Option.some.injEq, Prod.mk.injEq] at e2
      obtain ⟨h1, h2, h3, h4, h5, h6, h7, h8, h9⟩ := e2
      subst h1 h2 h3 h4 h5 h6 h7 h9
      refine ⟨oc, od, osl, n8, n9, n10, n11, n12, n13, n14, rfl, c, fun h => ?_⟩
      rw [h] at h8
      exact h8
    | _ => cases c
theorem fnU_ok {K : PySem.W.Frag} {d : FnU} (e : d.obs K = d.val) (c : codeB K (adr K d.at_ d.md) d.qual = true) (hd : d.de = false) :
    ∃ oc od osl kV doc pm an cdv ct, K.lookup (adr K d.at_ d.md) = some ⟨oc, od, .func (PySem.W.fnOf d.name d.qual d.params d.body d.scope .none kV doc pm an cdv ct), osl⟩ ∧ PySem.W.codeIn K cdv d.qual = true := by
  obtain ⟨oc, od, osl, dV, kV, doc, pm, an, cdv, ct, l, c, h⟩ := fnE_ok e c
  rw [h hd] at l
  exact ⟨oc, od, osl, kV, doc, pm, an, cdv, ct, l, c⟩
def obsK (B : PySem.W.Frag → Bool) (fn : List FnU) (tf : List He.Defn) (g : Addr → Option Obj) (K : PySem.W.Frag) : Bool × List He.FnV := (B K && He.tabsB g tf K, fn.map fun d => d.obs K)
def obs (n : Nat) (B : PySem.W.Frag → Bool) (fn : List FnU) (tf : List He.Defn) (g : Addr → Option Obj) : Bool × List He.FnV := obsK B fn tf g (He.frT g (PHT.reach g n))
structure Says (B : PySem.W.Frag → Bool) (fn : List FnU) (tf : List He.Defn) (h : Heap) (K : PySem.W.Frag) : Prop where
  into : K.In h
  b : B K = true
  fns : fn.map (fun d => d.obs K) = fn.map FnU.val
  hd : ∀ p ∈ tf, PySem.W.codeHdIn K (He.cT K p).1 (He.cT K p).2 = true
  out : ∀ p ∈ tf, K.lookup (He.cT K p).2 = none
  empty : ∀ p ∈ tf, h.get? (He.cT K p).2 = some { cls := .none, data := .fields #[] }
theorem says_of {n : Nat} {B : PySem.W.Frag → Bool} {fn : List FnU} {tf : List He.Defn} {h : Heap} (e : obs n B fn tf h.get? = (true, fn.map FnU.val)) : Says B fn tf h (He.frT h.get? (PHT.reach h.get? n)) := by
  unfold obs obsK at e
  have e1 := congrArg (fun z : Bool × List He.FnV => z.1) e
  have e2 := congrArg (fun z : Bool × List He.FnV => z.2) e
  have e1 : (B (He.frT h.get? (PHT.reach h.get? n)) && He.tabsB h.get? tf (He.frT h.get? (PHT.reach h.get? n))) = true := e1
  obtain ⟨h1, h2⟩ := Bool.and_eq_true_iff.mp e1
  have key : ∀ p ∈ tf, PySem.W.codeHdIn (He.frT h.get? (PHT.reach h.get? n)) (He.cT (He.frT h.get? (PHT.reach h.get? n)) p).1 (He.cT (He.frT h.get? (PHT.reach h.get? n)) p).2 = true ∧ ∃ o, h.get? (He.cT (He.frT h.get? (PHT.reach h.get? n)) p).2 = some o ∧ He.emptyTab o = true := fun p hp => by
    obtain ⟨h3, h4⟩ := Bool.and_eq_true_iff.mp (List.all_eq_true.mp h2 p hp)
    refine ⟨h3, ?_⟩
    split at h4
    · rename_i o q
      exact ⟨o, q, h4⟩
    · cases h4
  exact ⟨He.frT_in, h1, e2, fun p hp => (key p hp).1, fun p hp => (let ⟨o, q, z⟩ := (key p hp).2; He.frT_none q z), fun p hp => (let ⟨o, q, z⟩ := (key p hp).2; q.trans (congrArg some (He.emptyTab_eq z)))⟩
def hook (n : Nat) (B : PySem.W.Frag → Bool) (fn : List FnU) (tf : List He.Defn) : PySem.W.Hook where
  α := Bool × List He.FnV
  obs := fun s => obs n B fn tf s.heap.get?
  val := fun _ => (true, fn.map FnU.val)
  says := fun _ h => ∃ K, Says B fn tf h K
  of := fun _ _ e => ⟨_, says_of e⟩
  keeps := fun _ _ _ ⟨K, c⟩ k => ⟨K, PySem.W.Frag.In.keeps c.into k, c.b, c.fns, c.hd, c.out, fun p hp => k _ _ (c.empty p hp)⟩
theorem obs_eq {n : Nat} {B : PySem.W.Frag → Bool} {fn : List FnU} {tf : List He.Defn} (s : PySem.W.SharedT) : obs n B fn tf (HandSHeadRun.getT s) = (hook n B fn tf).obs s.abs := by
  have e : HandSHeadRun.getT s = s.abs.heap.get? := funext fun a => HandSHeadRun.getT_eq s a
  rw [e]
  rfl
theorem fn_at {fn : List FnU} {K : PySem.W.Frag} (e : fn.map (fun d => d.obs K) = fn.map FnU.val) (i : Nat) {d : FnU} (h : fn[i]? = some d) : d.obs K = d.val := by
  have e2 : (fn.map fun d => d.obs K)[i]? = (fn.map FnU.val)[i]? := by rw [e]
  rw [List.getElem?_map, List.getElem?_map, h] at e2
  exact Option.some.inj e2
/-! ### facts about own classes, as booleans -/
def hasDB (K : PySem.W.Frag) (a : Addr) (n : Nat) : Bool := match K.lookup a with
  | some ⟨_, _, .func fd, _⟩ => match fd.defaults with
    | .ref T => match K.lookup T with
      | some o => match o.data with
        | .seq its _ => decide (its.size = n)
        | _ => false
      | none => false
    | _ => false
  | _ => false
theorem hasDB_ok {K : PySem.W.Frag} {a : Addr} {n : Nat} (h : hasDB K a n = true) {oc : Value} {od : Option Addr} {osl : Array (Option Value)} {fd : FuncData} (l : K.lookup a = some ⟨oc, od, .func fd, osl⟩) : HasD K fd n := by
  unfold hasDB at h
  rw [l] at h
  dsimp only at h
  split at h
  · rename_i T eT
    split at h
    · rename_i o lo
      split at h
      · rename_i its m ed
        refine ⟨T, o, its.toList, m, eT, lo, ?_, ?_⟩
        · rw [ed]
        · exact of_decide_eq_true h
      · cases h
    · cases h
  · cases h
def cmB (K : PySem.W.Frag) (c m : Str) : Bool := PySem.W.readsIn K (He.ga K c) (.type "type") && decide (PySem.W.specialIn K (.ref (He.ga K c)) "__getattribute__" = some (some (.builtin "type.__getattribute__"))) &&
  (match PySem.W.findCls K (.ref (He.ga K c)) (.type "type") m with
  | some (.get (.builtin b) (.ref p) .none (.ref C)) => decide (b = "classmethod.__get__") && decide (p = He.ma K (He.ga K c) m) && decide (C = He.ga K c)
  | _ => false) && (match PySem.W.recIn K (He.ma K (He.ga K c) m) "classmethod" with
  | some (.ref g :: _) => PySem.W.fnIn K g
  | _ => false)
theorem cmB_ok {K : PySem.W.Frag} {c m : Str} (h : cmB K c m = true) : CmP K (He.ga K c) m (He.ma K (He.ga K c) m) (adr K (c, some m) .c) := by
  unfold cmB at h
  simp only [Bool.and_eq_true, decide_eq_true_eq] at h
  obtain ⟨⟨⟨h1, h2⟩, h3⟩, h4⟩ := h
  have hg : ∃ rest, PySem.W.recIn K (He.ma K (He.ga K c) m) "classmethod" = some (.ref (adr K (c, some m) .c) :: rest) ∧ PySem.W.fnIn K (adr K (c, some m) .c) = true := by
    have ea : adr K (c, some m) .c = recF K (He.ma K (He.ga K c) m) "classmethod" := rfl
    rw [ea]
    unfold recF
    split at h4
    · rename_i g rest e
      rw [e]
      exact ⟨rest, rfl, h4⟩
    · cases h4
  obtain ⟨rest, g1, g2⟩ := hg
  refine ⟨⟨h1, h2⟩, ⟨?_, ⟨rest, g1⟩, g2⟩⟩
  split at h3
  · rename_i b p C e
    simp only [Bool.and_eq_true, decide_eq_true_eq] at h3
    obtain ⟨⟨rfl, rfl⟩, rfl⟩ := h3
    exact e
  · cases h3
def prB (K : PySem.W.Frag) (c m : Str) : Bool := decide (PySem.W.findIn K (.ref (He.ga K c)) m = some (some (.ref (He.ma K (He.ga K c) m)))) && decide (PySem.W.specialIn K (.ref (He.ma K (He.ga K c) m)) "__get__" = some (some (.builtin "property.__get__"))) &&
  decide (PySem.W.takesIn K (.ref (He.ma K (He.ga K c) m)) = some true) && (match PySem.W.recIn K (He.ma K (He.ga K c) m) "property" with
  | some (.ref _ :: _) => true
  | _ => false)
theorem prB_ok {K : PySem.W.Frag} {c m : Str} (h : prB K c m = true) : PropOf K (He.ga K c) m (He.ma K (He.ga K c) m) (adr K (c, some m) .p) := by
  unfold prB at h
  simp only [Bool.and_eq_true, decide_eq_true_eq] at h
  obtain ⟨⟨⟨h1, h2⟩, h3⟩, h4⟩ := h
  refine ⟨h1, h2, h3, ?_⟩
  have ea : adr K (c, some m) .p = recF K (He.ma K (He.ga K c) m) "property" := rfl
  rw [ea]
  unfold recF
  split at h4
  · rename_i g rest e
    rw [e]
    exact ⟨rest, rfl⟩
  · cases h4
def opTB (K : PySem.W.Frag) (C : Addr) (op : Operator) : Bool := PySem.W.selfFirst K C && decide (PySem.W.findIn K (.ref C) (dunderR op.info.2) = some none) && decide (PySem.W.findIn K (.type "str") (PySem.dunder op.info.2) = some none) && decide (PySem.W.findIn K (.type "str") (dunderR op.info.2) = some none) && decide (PySem.W.subIn K (.type "str") (.ref C) = some false)
theorem opTB_ok {K : PySem.W.Frag} {C : Addr} {op : Operator} (h : opTB K C op = true) : OpT K C op := by
  unfold opTB at h
  simp only [Bool.and_eq_true, decide_eq_true_eq] at h
  obtain ⟨⟨⟨⟨h1, h2⟩, h3⟩, h4⟩, h5⟩ := h
  exact ⟨h1, h2, h3, h4, h5⟩
end PHU

set_option Elab.async false
set_option linter.all false
set_option maxRecDepth 100000
set_option maxHeartbeats 4000000
/-! PHV: facts about a def whose one default is the empty tuple. -/
namespace PHV
open PySem PySem.Spec PyProof.Rows L2 PD
def kt0B (K : PySem.W.Frag) (a : Addr) : Bool := match K.lookup a with
  | some o => decide (o.cls = .type "tuple") && (match o.data with
    | .seq its _ => decide (its.size = 0)
    | _ => false)
  | none => false
theorem kt0B_ok {K : PySem.W.Frag} {a : Addr} (h : kt0B K a = true) : KT0 K a := by
  unfold kt0B at h
  split at h
  · rename_i o lo
    obtain ⟨h1, h2⟩ := Bool.and_eq_true_iff.mp h
    split at h2
    · rename_i its n ed
      refine ⟨o, n, lo, of_decide_eq_true h1, ?_⟩
      rw [ed, Array.eq_empty_of_size_eq_zero (of_decide_eq_true h2)]
    · cases h2
  · cases h
/-- the one default of the def at a -/
def d0 (K : PySem.W.Frag) (a : Addr) : Addr := match K.lookup a with
  | some ⟨_, _, .func fd, _⟩ => match fd.defaults with
    | .ref T => match K.lookup T with
      | some o => match o.data with
        | .seq its _ => match its.toList with
          | [.ref b] => b
          | _ => 0
        | _ => 0
      | none => 0
    | _ => 0
  | _ => 0
def d0B (K : PySem.W.Frag) (a : Addr) : Bool := (match K.lookup a with
  | some ⟨_, _, .func fd, _⟩ => match fd.defaults with
    | .ref T => match K.lookup T with
      | some o => match o.data with
        | .seq its _ => decide (its.toList = [.ref (d0 K a)])
        | _ => false
      | none => false
    | _ => false
  | _ => false) && kt0B K (d0 K a)
theorem d0B_ok {K : PySem.W.Frag} {a : Addr} (h : d0B K a = true) {oc : Value} {od : Option Addr} {osl : Array (Option Value)} {fd : FuncData} (l : K.lookup a = some ⟨oc, od, .func fd, osl⟩) :
    ∃ (T : Addr) (o : Obj) (m : Nat), fd.defaults = .ref T ∧ K.lookup T = some o ∧ o.data = .seq #[.ref (d0 K a)] m ∧ KT0 K (d0 K a) := by
  unfold d0B at h
  obtain ⟨h1, h2⟩ := Bool.and_eq_true_iff.mp h
  rw [l] at h1
  dsimp only at h1
  split at h1
  · rename_i T eT
    split at h1
    · rename_i o lo
      split at h1
      · rename_i its m ed
        refine ⟨T, o, m, eT, lo, ?_, kt0B_ok h2⟩
        rw [ed]
        have e := of_decide_eq_true h1
        rw [← Array.toArray_toList (xs := its), e]
      · cases h1
    · cases h1
  · cases h1
end PHV

set_option Elab.async false
set_option linter.all false
set_option maxRecDepth 100000
set_option maxHeartbeats 4000000
/-! PHW: facts about whole numbers that are constants of own classes. -/
namespace PHW
open PySem PySem.Spec PyProof.Rows L2 PD ClX
def conB (K : PySem.W.Frag) (C : Addr) (f : Str) (n : Int) : Bool := PySem.W.readsIn K C (.type "type") && decide (PySem.W.specialIn K (.ref C) "__getattribute__" = some (some (.builtin "type.__getattribute__"))) &&
  (match PySem.W.findCls K (.ref C) (.type "type") f with
  | some (.val (.int i _)) => decide (i = n)
  | _ => false) &&
  (match PySem.W.findIn K (.ref C) f with
  | some (some (.int i t)) => decide (i = n) && decide (PySem.W.specialIn K (.int i t) "__get__" = some none)
  | _ => false) && !PySem.W.copiedNames.contains f
theorem conB_cv {K : PySem.W.Frag} {C : Addr} {f : Str} {n : Int} (h : conB K C f n = true) : ∃ mc t, CRead K C mc ∧ CVal K C mc f (.int n) (.int n t) := by
  unfold conB at h
  simp only [Bool.and_eq_true, decide_eq_true_eq] at h
  obtain ⟨⟨⟨⟨h1, h2⟩, h3⟩, _⟩, _⟩ := h
  split at h3
  · rename_i i t e
    have h3 := of_decide_eq_true h3
    subst h3
    exact ⟨_, t, ⟨h1, h2⟩, ⟨e, ⟨t, rfl⟩⟩⟩
  · cases h3
theorem conB_ci {K : PySem.W.Frag} {C : Addr} {f : Str} {n : Int} (h : conB K C f n = true) : ∃ t, Con K C f (.int n) (.int n t) := by
  unfold conB at h
  simp only [Bool.and_eq_true] at h
  obtain ⟨⟨_, h4⟩, h5⟩ := h
  split at h4
  · rename_i i t e
    obtain ⟨h6, h7⟩ := Bool.and_eq_true_iff.mp h4
    have h6 := of_decide_eq_true h6
    subst h6
    exact ⟨t, ⟨e, ⟨t, rfl⟩, of_decide_eq_true h7, by simpa using h5⟩⟩
  · cases h4
end PHW

set_option Elab.async false
set_option linter.all false
set_option maxRecDepth 100000
set_option maxHeartbeats 4000000
/-! The text's facts, told of the part that the module's names reach. -/
namespace K21
open PySem PySem.Spec PyProof.Rows L2 PD
structure DfH (K : PySem.W.Frag) (x : Str) (st : Stmt) : Prop where
  ex : ∃ (f : Addr) (oc : Value) (od : Option Addr) (kV doc pm : Value) (an : Option Addr) (cdv ct : Value) (osl : Array (Option Value)), PySem.W.nsIn K mainGlobals x = some (some (.ref f)) ∧
    K.lookup f = some ⟨oc, od, .func (PySem.W.fnOf x x (defArgs st) (defBody st) (defScope st) .none kV doc pm an cdv ct), osl⟩ ∧ PySem.W.codeIn K cdv x = true ∧ PySem.W.keepIn K (.ref f) = true
theorem DfH.to {K : PySem.W.Frag} {h : Heap} {mg : Str → Option Value} (KX : K.In h) (G : h.Ns mainGlobals mg) {x : Str} {st : Stmt} {ps : List Str} (d : DfH K x st)
    (hb : ∀ (kV doc pm : Value) (an : Option Addr) (cdv ct : Value) (us : List Value), us.length = ps.length → bindArgs (PySem.W.fnOf x x (defArgs st) (defBody st) (defScope st) .none kV doc pm an cdv ct) ⟨us, []⟩ = pure (ps.zip us)) : ∃ f fd, Df K mg x st ps f fd := by
  obtain ⟨f, oc, od, kV, doc, pm, an, cdv, ct, osl, g, l, c, k⟩ := d.ex
  have F := fun_mk (st := st) l c k
  exact ⟨f, _, F, PySem.W.mg_of KX G g, F.binds hb⟩
def fnOfD (x : Str) (st : Stmt) : PHU.FnU := ⟨(x, none), .m, false, x, x, defArgs st, defBody st, defScope st⟩
def fnOfI (c : Str) (q : Str) (st : Stmt) : PHU.FnU := ⟨(c, some "__init__"), .m, false, "__init__", q, defArgs st, defBody st, defScope st⟩
def dfB (K : PySem.W.Frag) (x : Str) : Bool := decide (PySem.W.nsIn K mainGlobals x = some (some (.ref (He.ga K x)))) && PHU.codeB K (He.ga K x) x && PySem.W.keepIn K (.ref (He.ga K x))
theorem dfB_ok {K : PySem.W.Frag} {x : Str} {st : Stmt} (h : dfB K x = true) (e : (fnOfD x st).obs K = (fnOfD x st).val) : DfH K x st := by
  unfold dfB at h
  simp only [Bool.and_eq_true, decide_eq_true_eq] at h
  obtain ⟨⟨h1, h2⟩, h3⟩ := h
  obtain ⟨oc, od, osl, kV, doc, pm, an, cdv, ct, l, c⟩ := PHU.fnU_ok (d := fnOfD x st) e h2 rfl
  exact ⟨_, _, _, _, _, _, _, _, _, _, h1, l, c, h3⟩
theorem dfL_mk {K : PySem.W.Frag} {h : Heap} {mg : Str → Option Value} {base : Heap} {tf : List He.Defn} (KX : K.In h) (G : h.Ns mainGlobals mg) {x : Str} {st : Stmt} {ps : List Str} (hd : dfB K x = true) (e : (fnOfD x st).obs K = (fnOfD x st).val)
    (hb : ∀ (kV doc pm : Value) (an : Option Addr) (cdv ct : Value) (us : List Value), us.length = ps.length → bindArgs (PySem.W.fnOf x x (defArgs st) (defBody st) (defScope st) .none kV doc pm an cdv ct) ⟨us, []⟩ = pure (ps.zip us))
    (tb : ∀ p ∈ tf.map (He.cT K), LamX.TabB base mg p.1 p.2) (hm : ((x, none) : He.Defn) ∈ tf) (nd : (tf.map fun p => (He.cT K p).2).Nodup) : ∃ f fd c Pt, DfL K mg base (PHT.tabs K tf) x st ps f fd c Pt := by
  unfold dfB at hd
  simp only [Bool.and_eq_true, decide_eq_true_eq] at hd
  obtain ⟨⟨h1, h2⟩, h3⟩ := hd
  obtain ⟨oc, od, osl, kV, doc, pm, an, cdv, ct, l, c⟩ := PHU.fnU_ok (d := fnOfD x st) e h2 rfl
  obtain ⟨c0, rfl⟩ := He.codeIn_ref c
  have ec : (He.cT K (x, none)).1 = c0 := He.codeOf_eq l rfl
  have t1 := tb _ (List.mem_map.mpr ⟨(x, none), hm, rfl⟩)
  rw [ec] at t1
  exact ⟨He.ga K x, _, c0, (He.cT K (x, none)).2, ⟨⟨oc, od, kV, doc, pm, an, ct, osl, rfl, l, c⟩, h3⟩, PySem.W.mg_of KX G h1, (fun_mk (st := st) l c h3).binds hb, t1, List.mem_map.mpr ⟨(x, none), hm, rfl⟩, PHT.tab_one nd hm⟩
def bsB (K : PySem.W.Frag) (nm : Str) (initId : String) : Bool := decide (PySem.W.nsIn K mainGlobals nm = some (some (.ref (He.ga K nm)))) && PySem.W.readsIn K (He.ga K nm) (.type "type") && (match PySem.W.findCls K (.ref (He.ga K nm)) (.type "type") "__init__" with
  | some (.val (.builtin i)) => decide (i = initId)
  | _ => false) && decide (PySem.W.specialIn K (.ref (He.ga K nm)) "__getattribute__" = some (some (.builtin "type.__getattribute__")))
theorem bsB_ok {K : PySem.W.Frag} {h : Heap} {mg : Str → Option Value} (KX : K.In h) (G : h.Ns mainGlobals mg) {nm : Str} {initId : String} (hb : bsB K nm initId = true) : Bs K mg nm initId (He.ga K nm) := by
  unfold bsB at hb
  simp only [Bool.and_eq_true, decide_eq_true_eq] at hb
  obtain ⟨⟨⟨h1, h2⟩, h3⟩, h4⟩ := hb
  refine ⟨PySem.W.mg_of KX G h1, ⟨_, h2, ?_⟩, h4⟩
  split at h3
  · rename_i i e
    rw [e, of_decide_eq_true h3]
  · cases h3
def cfB (K : PySem.W.Frag) (nm qual : Str) (newId : String) (bm : List Value) (fs : List Str) : Bool := decide (PySem.W.nsIn K mainGlobals nm = some (some (.ref (He.ga K nm)))) && clsB K newId bm fs (He.ga K nm) &&
  decide (PySem.W.findIn K (.ref (He.ga K nm)) "__init__" = some (some (.ref (He.ma K (He.ga K nm) "__init__")))) && decide (PySem.W.typeIn K (.ref (He.ma K (He.ga K nm) "__init__")) = some (.type "function")) && PHU.codeB K (He.ma K (He.ga K nm) "__init__") qual && PySem.W.keepIn K (.ref (He.ma K (He.ga K nm) "__init__"))
theorem cfB_ok {K : PySem.W.Frag} {h : Heap} {mg : Str → Option Value} (KX : K.In h) (G : h.Ns mainGlobals mg) {nm qual : Str} {st : Stmt} {newId : String} {bm : List Value} {fs : List Str} (hc : cfB K nm qual newId bm fs = true) (e : (fnOfI nm qual st).obs K = (fnOfI nm qual st).val) : Cf K mg nm qual st newId bm fs (He.ga K nm) := by
  unfold cfB at hc
  simp only [Bool.and_eq_true, decide_eq_true_eq] at hc
  obtain ⟨⟨⟨⟨⟨h1, h2⟩, h3⟩, h4⟩, h5⟩, h6⟩ := hc
  obtain ⟨oc, od, osl, kV, doc, pm, an, cdv, ct, l, c⟩ := PHU.fnU_ok (d := fnOfI nm qual st) e h5 rfl
  exact cf_mk KX G h1 h2 h3 h4 l c h6
def fnOfM (md : PHU.Md) (de : Bool) (c m q : Str) (st : Stmt) : PHU.FnU := ⟨(c, some m), md, de, m, q, defArgs st, defBody st, defScope st⟩
def mfB (K : PySem.W.Frag) (c m q : Str) : Bool := decide (PySem.W.findIn K (.ref (He.ga K c)) m = some (some (.ref (He.ma K (He.ga K c) m)))) && PySem.W.isFn K (.ref (He.ma K (He.ga K c) m)) && PySem.W.keepIn K (.ref (He.ma K (He.ga K c) m)) && PHU.codeB K (He.ma K (He.ga K c) m) q
theorem mfB_ok {K : PySem.W.Frag} {c m q : Str} {st : Stmt} {ps : List Str} (h : mfB K c m q = true) (e : (fnOfM .m false c m q st).obs K = (fnOfM .m false c m q st).val)
    (hb : ∀ (kV doc pm : Value) (an : Option Addr) (cdv ct : Value) (us : List Value), us.length = ps.length → bindArgs (PySem.W.fnOf m q (defArgs st) (defBody st) (defScope st) .none kV doc pm an cdv ct) ⟨us, []⟩ = pure (ps.zip us)) : ∃ f fd, Mf K (He.ga K c) m q st ps f fd := by
  unfold mfB at h
  simp only [Bool.and_eq_true, decide_eq_true_eq] at h
  obtain ⟨⟨⟨h1, h2⟩, h3⟩, h4⟩ := h
  obtain ⟨oc, od, osl, kV, doc, pm, an, cdv, ct, l, c⟩ := PHU.fnU_ok (d := fnOfM .m false c m q st) e h4 rfl
  have F := fun_mk (st := st) l c h3
  exact ⟨_, _, F, ⟨h1, h2, h3⟩, F.binds hb⟩
theorem meB_ok {K : PySem.W.Frag} {c m q : Str} {st : Stmt} {ps : List Str} {n : Nat} (h : mfB K c m q = true) (hd : PHU.hasDB K (He.ma K (He.ga K c) m) n = true) (e : (fnOfM .m true c m q st).obs K = (fnOfM .m true c m q st).val)
    (hb : ∀ (T : Addr) (kV doc pm : Value) (an : Option Addr) (cdv ct : Value) (us its : List Value), us.length = ps.length → its.length = n →
      ∃ k, bindArgs (PySem.W.fnOf m q (defArgs st) (defBody st) (defScope st) (.ref T) kV doc pm an cdv ct) ⟨us, []⟩ = seqItems? (.ref T) >>= k ∧ k (some its.toArray) = pure (ps.zip us)) : ∃ f fd, MfE K (He.ga K c) m q st ps f fd := by
  unfold mfB at h
  simp only [Bool.and_eq_true, decide_eq_true_eq] at h
  obtain ⟨⟨⟨h1, h2⟩, h3⟩, h4⟩ := h
  obtain ⟨oc, od, osl, dV, kV, doc, pm, an, cdv, ct, l, c, _⟩ := PHU.fnE_ok (d := fnOfM .m true c m q st) e h4
  have F : FunE K m q st (He.ma K (He.ga K _) m) _ := ⟨⟨oc, od, dV, kV, doc, pm, an, cdv, ct, osl, rfl, l, c⟩, h3⟩
  exact ⟨_, _, F, ⟨h1, h2, h3⟩, F.binds (PHU.hasDB_ok hd l) hb⟩
def ckB (K : PySem.W.Frag) (md : PHU.Md) (c m q : Str) : Bool := PySem.W.keepIn K (.ref (PHU.adr K (c, some m) md)) && PHU.codeB K (PHU.adr K (c, some m) md) q
theorem cmk_ok {K : PySem.W.Frag} {c m q : Str} {st : Stmt} {ps : List Str} (h : ckB K .c c m q = true) (hc : PHU.cmB K c m = true) (e : (fnOfM .c false c m q st).obs K = (fnOfM .c false c m q st).val)
    (hb : ∀ (kV doc pm : Value) (an : Option Addr) (cdv ct : Value) (us : List Value), us.length = ps.length → bindArgs (PySem.W.fnOf m q (defArgs st) (defBody st) (defScope st) .none kV doc pm an cdv ct) ⟨us, []⟩ = pure (ps.zip us)) : ∃ f fd, Cm K (He.ga K c) m q st ps f fd := by
  unfold ckB at h
  obtain ⟨h3, h4⟩ := Bool.and_eq_true_iff.mp h
  obtain ⟨oc, od, osl, kV, doc, pm, an, cdv, ct, l, c⟩ := PHU.fnU_ok (d := fnOfM .c false c m q st) e h4 rfl
  have F := fun_mk (st := st) l c h3
  exact ⟨_, _, F, ⟨_, PHU.cmB_ok hc⟩, F.binds hb⟩
theorem prk_ok {K : PySem.W.Frag} {c m q : Str} {st : Stmt} {ps : List Str} (h : ckB K .p c m q = true) (hc : PHU.prB K c m = true) (e : (fnOfM .p false c m q st).obs K = (fnOfM .p false c m q st).val)
    (hb : ∀ (kV doc pm : Value) (an : Option Addr) (cdv ct : Value) (us : List Value), us.length = ps.length → bindArgs (PySem.W.fnOf m q (defArgs st) (defBody st) (defScope st) .none kV doc pm an cdv ct) ⟨us, []⟩ = pure (ps.zip us)) : ∃ f fd, Pf K (He.ga K c) m q st ps f fd := by
  unfold ckB at h
  obtain ⟨h3, h4⟩ := Bool.and_eq_true_iff.mp h
  obtain ⟨oc, od, osl, kV, doc, pm, an, cdv, ct, l, c⟩ := PHU.fnU_ok (d := fnOfM .p false c m q st) e h4 rfl
  have F := fun_mk (st := st) l c h3
  exact ⟨_, _, F, ⟨_, PHU.prB_ok hc⟩, F.binds hb⟩
def ocB (K : PySem.W.Frag) (nm : Str) (fs : List Str) : Bool := decide (PySem.W.nsIn K mainGlobals nm = some (some (.ref (He.ga K nm)))) && PySem.W.plainGet K (He.ga K nm) Str.empty && PySem.W.hasDictIn K (He.ga K nm) && PySem.W.plainOver K (He.ga K nm) && decide (PySem.W.findIn K (.ref (He.ga K nm)) "__setattr__" = some (some (.builtin "object.__setattr__"))) &&
  decide (PySem.W.findIn K (.ref (He.ga K nm)) "__class__" = some (some (.builtin "object.__class__"))) && decide (PySem.W.specialIn K (.builtin "object.__class__") "__get__" = some (some (.builtin "getset_descriptor.__get__"))) && decide (PySem.W.takesIn K (.builtin "object.__class__") = some true) && decide (PySem.W.mroIn K (He.ga K nm) (.type "object") = some true) &&
  PySem.W.makesIn K (He.ga K nm) && PySem.W.keepIn K (.ref (He.ga K nm)) && fs.all (fun f => decide (PySem.W.findIn K (.ref (He.ga K nm)) f = some none)) && decide (PySem.W.kitOne K (.ref (He.ga K nm)) (.ref (He.ga K nm)) = some true)
theorem ocB_ok {K : PySem.W.Frag} {h : Heap} {mg : Str → Option Value} (KX : K.In h) (G : h.Ns mainGlobals mg) {nm : Str} {fs : List Str} (hb : ocB K nm fs = true) : Oc K mg nm fs (He.ga K nm) := by
  unfold ocB at hb
  simp only [Bool.and_eq_true, decide_eq_true_eq] at hb
  obtain ⟨⟨⟨⟨⟨⟨⟨⟨⟨⟨⟨⟨h1, h2⟩, h3⟩, h4⟩, h5⟩, h6⟩, h7⟩, h8⟩, h9⟩, h10⟩, h11⟩, h12⟩, h13⟩ := hb
  exact ⟨PySem.W.mg_of KX G h1, ⟨⟨h2, h3, h4, h5⟩, h6, h7, h8, h9⟩, h10, h11, fun f hf => (of_decide_eq_true (List.all_eq_true.mp h12 f hf) : PySem.W.findIn K (.ref (He.ga K nm)) f = some none), h13⟩
def tf : List He.Defn := []
def fnL : List PHU.FnU := [fnOfD "is_list" s_is_list,
  fnOfD "is_name" s_is_name,
  fnOfD "is_letter" s_is_letter,
  fnOfD "is_word" s_is_word,
  fnOfD "want_words" s_want_words,
  fnOfD "all_beginnings" s_all_beginnings,
  fnOfD "ordered" s_ordered,
  fnOfD "closed" s_closed,
  fnOfD "are_few" s_are_few,
  fnOfD "wrong_position" s_wrong_position,
  fnOfD "want_triggers" s_want_triggers,
  fnOfD "want_makes" s_want_makes,
  fnOfD "letters_in" s_letters_in,
  fnOfD "_law_pot" s_law_pot,
  fnOfD "_law_draw" s_law_draw,
  fnOfD "_law_pick" s_law_pick,
  fnOfD "_law_tags" s_law_tags,
  fnOfD "_law_all" s_law_all,
  fnOfD "_law_lined" s_law_lined,
  fnOfD "_law_verses" s_law_verses,
  fnOfD "_law_saw" s_law_saw,
  fnOfD "_law_mixed" s_law_mixed,
  fnOfD "_law_tags_in" s_law_tags_in,
  fnOfD "_law_closed" s_law_closed,
  fnOfD "_law_tells" s_law_tells,
  fnOfD "_law_near" s_law_near,
  fnOfD "_law_right" s_law_right,
  fnOfD "law" s_law,
  fnOfM .m false "Saying" "__init__" "Saying.__init__" s_Saying___init__,
  fnOfM .m false "Saying" "triggers" "Saying.triggers" s_Saying_triggers,
  fnOfM .m false "Saying" "makes" "Saying.makes" s_Saying_makes,
  fnOfM .m false "Saying" "letters" "Saying.letters" s_Saying_letters,
  fnOfM .m false "Saying" "make_letters" "Saying.make_letters" s_Saying_make_letters,
  fnOfM .m false "Saying" "trigger_front" "Saying.trigger_front" s_Saying_trigger_front,
  fnOfM .m false "Saying" "make_front" "Saying.make_front" s_Saying_make_front,
  fnOfM .m false "Saying" "with_triggers" "Saying.with_triggers" s_Saying_with_triggers,
  fnOfM .m false "Saying" "with_makes" "Saying.with_makes" s_Saying_with_makes,
  fnOfM .m false "Saying" "__eq__" "Saying.__eq__" s_Saying___eq__,
  fnOfM .m false "Saying" "__repr__" "Saying.__repr__" s_Saying___repr__,
  fnOfM .m true "Front" "__init__" "Front.__init__" s_Front___init__,
  fnOfM .m false "Front" "words" "Front.words" s_Front_words,
  fnOfM .m false "Front" "__eq__" "Front.__eq__" s_Front___eq__]
def facts (K : PySem.W.Frag) : List Bool := [dfB K "is_list",
  dfB K "is_name",
  dfB K "is_letter",
  dfB K "is_word",
  dfB K "want_words",
  dfB K "all_beginnings",
  dfB K "ordered",
  dfB K "closed",
  dfB K "are_few",
  dfB K "wrong_position",
  dfB K "want_triggers",
  dfB K "want_makes",
  dfB K "letters_in",
  dfB K "_law_pot",
  dfB K "_law_draw",
  dfB K "_law_pick",
  dfB K "_law_tags",
  dfB K "_law_all",
  dfB K "_law_lined",
  dfB K "_law_verses",
  dfB K "_law_saw",
  dfB K "_law_mixed",
  dfB K "_law_tags_in",
  dfB K "_law_closed",
  dfB K "_law_tells",
  dfB K "_law_near",
  dfB K "_law_right",
  dfB K "law",
  (He.Fa.int "MOST_SIGNS" 8).ok K,
  (He.Fa.str "SIGNS" "abcdefghijklmnopqrstuvwxyz").ok K,
  (He.Fa.int "LONGEST_WORD" 3).ok K,
  (He.Fa.int "MOST_WORDS" 3).ok K,
  (["isinstance", "str", "tuple", "list", "len", "all", "any", "set", "sorted", "range", "enumerate", "max", "min", "abs", "int", "divmod", "repr", "dict"] : List Str).all (fun x => decide (PySem.W.nsIn K mainGlobals x = some none)),
  (He.Fa.glo "WakeError").ok K,
  (He.Fa.glo "MissingError").ok K,
  (He.Fa.glo "InvalidWords").ok K,
  (He.Fa.glo "InvalidFront").ok K,
  (He.Fa.glo "InvalidTriggers").ok K,
  (He.Fa.glo "InvalidMakes").ok K,
  (He.Fa.glo "UnknownLetter").ok K,
  (He.Fa.glo "Front").ok K,
  (He.Fa.glo "Saying").ok K,
  decide (PySem.W.kitOne K (.ref (He.ga K "Front")) (.ref (He.ga K "Saying")) = some false),
  decide (PySem.W.kitOne K (.type "NoneType") (.ref (He.ga K "Saying")) = some false),
  decide (PySem.W.kitOne K (.type "int") (.ref (He.ga K "Saying")) = some false),
  decide (PySem.W.kitOne K (.type "tuple") (.ref (He.ga K "Saying")) = some false),
  decide (PySem.W.kitOne K (.type "list") (.ref (He.ga K "Saying")) = some false),
  decide (PySem.W.kitOne K (.type "str") (.ref (He.ga K "Saying")) = some false),
  PHW.conB K (He.ga K "Saying") "MOST" 3,
  mfB K "Saying" "__init__" "Saying.__init__",
  mfB K "Saying" "triggers" "Saying.triggers",
  mfB K "Saying" "makes" "Saying.makes",
  mfB K "Saying" "letters" "Saying.letters",
  mfB K "Saying" "make_letters" "Saying.make_letters",
  mfB K "Saying" "trigger_front" "Saying.trigger_front",
  mfB K "Saying" "make_front" "Saying.make_front",
  mfB K "Saying" "with_triggers" "Saying.with_triggers",
  mfB K "Saying" "with_makes" "Saying.with_makes",
  mfB K "Saying" "__eq__" "Saying.__eq__",
  mfB K "Saying" "__repr__" "Saying.__repr__",
  mfB K "Front" "__init__" "Front.__init__",
  PHU.hasDB K (He.ma K (He.ga K "Front") "__init__") 1,
  mfB K "Front" "words" "Front.words",
  mfB K "Front" "__eq__" "Front.__eq__",
  decide (PySem.W.findIn K (.ref (He.ga K "Saying")) "__ne__" = some (some (.builtin "object.__ne__"))),
  PySem.W.selfFirst K (He.ga K "Saying"),
  decide (PySem.W.findIn K (.ref (He.ga K "Front")) "__ne__" = some (some (.builtin "object.__ne__"))),
  PySem.W.selfFirst K (He.ga K "Front"),
  ocB K "Saying" ["own_triggers", "own_makes"],
  ocB K "Front" ["own_words"],
  decide ((tf.map fun p => (He.cT K p).2).Nodup)]
def allB (K : PySem.W.Frag) : Bool := (facts K).all id
theorem fact {K : PySem.W.Frag} (h : allB K = true) (i : Nat) {b : Bool} (e : (facts K)[i]? = some b) : b = true := List.all_eq_true.mp h b (List.mem_of_getElem? e)
theorem told {P : Program} {w : World} {h : Heap} {mg : Str → Option Value} {fa : Addr} (G : h.Ns mainGlobals mg) (hfa : mg "law" = some (.ref fa)) {K : PySem.W.Frag} (S : PHU.Says allB fnL tf h K) :
    ∃ fd : FuncData, (∀ (s : Shared) (u : Value), BindsTo s fd ⟨[u], []⟩ [("_law_script", u)]) ∧ ∀ base : Heap, K.In base → base.Ns mainGlobals mg → (∀ p ∈ tf.map (He.cT K), LamX.TabB base mg p.1 p.2) → FnG P w K mg base CX0 15 fa fd ["_law_script"] (spLaw (PHT.tabs K tf) K) := by
  have KX := S.into
  have hb := S.b
  have hf := S.fns
  have nd : (tf.map fun p => (He.cT K p).2).Nodup := of_decide_eq_true (fact hb 70 rfl)
  have no : ∀ x : Str, x ∈ (["isinstance", "str", "tuple", "list", "len", "all", "any", "set", "sorted", "range", "enumerate", "max", "min", "abs", "int", "divmod", "repr", "dict"] : List Str) → mg x = none := fun x hx => PySem.W.mg_none_of KX G (of_decide_eq_true (List.all_eq_true.mp (fact hb 32 rfl) x hx))
  have h_0 := dfB_ok (st := s_is_list) (fact hb 0 rfl) (PHU.fn_at hf 0 (d := fnOfD "is_list" s_is_list) rfl)
  have h_1 := dfB_ok (st := s_is_name) (fact hb 1 rfl) (PHU.fn_at hf 1 (d := fnOfD "is_name" s_is_name) rfl)
  have h_2 := dfB_ok (st := s_is_letter) (fact hb 2 rfl) (PHU.fn_at hf 2 (d := fnOfD "is_letter" s_is_letter) rfl)
  have h_3 := dfB_ok (st := s_is_word) (fact hb 3 rfl) (PHU.fn_at hf 3 (d := fnOfD "is_word" s_is_word) rfl)
  have h_4 := dfB_ok (st := s_want_words) (fact hb 4 rfl) (PHU.fn_at hf 4 (d := fnOfD "want_words" s_want_words) rfl)
  have h_5 := dfB_ok (st := s_all_beginnings) (fact hb 5 rfl) (PHU.fn_at hf 5 (d := fnOfD "all_beginnings" s_all_beginnings) rfl)
  have h_6 := dfB_ok (st := s_ordered) (fact hb 6 rfl) (PHU.fn_at hf 6 (d := fnOfD "ordered" s_ordered) rfl)
  have h_7 := dfB_ok (st := s_closed) (fact hb 7 rfl) (PHU.fn_at hf 7 (d := fnOfD "closed" s_closed) rfl)
  have h_8 := dfB_ok (st := s_are_few) (fact hb 8 rfl) (PHU.fn_at hf 8 (d := fnOfD "are_few" s_are_few) rfl)
  have h_9 := dfB_ok (st := s_wrong_position) (fact hb 9 rfl) (PHU.fn_at hf 9 (d := fnOfD "wrong_position" s_wrong_position) rfl)
  have h_10 := dfB_ok (st := s_want_triggers) (fact hb 10 rfl) (PHU.fn_at hf 10 (d := fnOfD "want_triggers" s_want_triggers) rfl)
  have h_11 := dfB_ok (st := s_want_makes) (fact hb 11 rfl) (PHU.fn_at hf 11 (d := fnOfD "want_makes" s_want_makes) rfl)
  have h_12 := dfB_ok (st := s_letters_in) (fact hb 12 rfl) (PHU.fn_at hf 12 (d := fnOfD "letters_in" s_letters_in) rfl)
  have h_13 := dfB_ok (st := s_law_pot) (fact hb 13 rfl) (PHU.fn_at hf 13 (d := fnOfD "_law_pot" s_law_pot) rfl)
  have h_14 := dfB_ok (st := s_law_draw) (fact hb 14 rfl) (PHU.fn_at hf 14 (d := fnOfD "_law_draw" s_law_draw) rfl)
  have h_15 := dfB_ok (st := s_law_pick) (fact hb 15 rfl) (PHU.fn_at hf 15 (d := fnOfD "_law_pick" s_law_pick) rfl)
  have h_16 := dfB_ok (st := s_law_tags) (fact hb 16 rfl) (PHU.fn_at hf 16 (d := fnOfD "_law_tags" s_law_tags) rfl)
  have h_17 := dfB_ok (st := s_law_all) (fact hb 17 rfl) (PHU.fn_at hf 17 (d := fnOfD "_law_all" s_law_all) rfl)
  have h_18 := dfB_ok (st := s_law_lined) (fact hb 18 rfl) (PHU.fn_at hf 18 (d := fnOfD "_law_lined" s_law_lined) rfl)
  have h_19 := dfB_ok (st := s_law_verses) (fact hb 19 rfl) (PHU.fn_at hf 19 (d := fnOfD "_law_verses" s_law_verses) rfl)
  have h_20 := dfB_ok (st := s_law_saw) (fact hb 20 rfl) (PHU.fn_at hf 20 (d := fnOfD "_law_saw" s_law_saw) rfl)
  have h_21 := dfB_ok (st := s_law_mixed) (fact hb 21 rfl) (PHU.fn_at hf 21 (d := fnOfD "_law_mixed" s_law_mixed) rfl)
  have h_22 := dfB_ok (st := s_law_tags_in) (fact hb 22 rfl) (PHU.fn_at hf 22 (d := fnOfD "_law_tags_in" s_law_tags_in) rfl)
  have h_23 := dfB_ok (st := s_law_closed) (fact hb 23 rfl) (PHU.fn_at hf 23 (d := fnOfD "_law_closed" s_law_closed) rfl)
  have h_24 := dfB_ok (st := s_law_tells) (fact hb 24 rfl) (PHU.fn_at hf 24 (d := fnOfD "_law_tells" s_law_tells) rfl)
  have h_25 := dfB_ok (st := s_law_near) (fact hb 25 rfl) (PHU.fn_at hf 25 (d := fnOfD "_law_near" s_law_near) rfl)
  have h_26 := dfB_ok (st := s_law_right) (fact hb 26 rfl) (PHU.fn_at hf 26 (d := fnOfD "_law_right" s_law_right) rfl)
  have h_27 := dfB_ok (st := s_law) (fact hb 27 rfl) (PHU.fn_at hf 27 (d := fnOfD "law" s_law) rfl)
  have T : ∀ base : Heap, (∀ p ∈ tf.map (He.cT K), LamX.TabB base mg p.1 p.2) → Txt P w K mg base (PHT.tabs K tf) := fun base tb => {
    n_isinstance := no "isinstance" (by simp)
    n_str := no "str" (by simp)
    n_tuple := no "tuple" (by simp)
    n_list := no "list" (by simp)
    n_len := no "len" (by simp)
    n_all := no "all" (by simp)
    n_any := no "any" (by simp)
    n_set := no "set" (by simp)
    n_sorted := no "sorted" (by simp)
    n_range := no "range" (by simp)
    n_enumerate := no "enumerate" (by simp)
    n_max := no "max" (by simp)
    n_min := no "min" (by simp)
    n_abs := no "abs" (by simp)
    n_int := no "int" (by simp)
    n_divmod := no "divmod" (by simp)
    n_repr := no "repr" (by simp)
    n_dict := no "dict" (by simp)
    MOST_SIGNS := He.int_ok KX G (fact hb 28 rfl)
    SIGNS := He.str_ok KX G (fact hb 29 rfl)
    LONGEST_WORD := He.int_ok KX G (fact hb 30 rfl)
    MOST_WORDS := He.int_ok KX G (fact hb 31 rfl)
    d_is_list := h_0.to KX G fun _ _ _ _ _ _ us hl => match us, hl with | [_], _ => rfl
    d_is_name := h_1.to KX G fun _ _ _ _ _ _ us hl => match us, hl with | [_], _ => rfl
    d_is_letter := h_2.to KX G fun _ _ _ _ _ _ us hl => match us, hl with | [_], _ => rfl
    d_is_word := h_3.to KX G fun _ _ _ _ _ _ us hl => match us, hl with | [_], _ => rfl
    d_want_words := h_4.to KX G fun _ _ _ _ _ _ us hl => match us, hl with | [_], _ => rfl
    d_all_beginnings := h_5.to KX G fun _ _ _ _ _ _ us hl => match us, hl with | [_], _ => rfl
    d_ordered := h_6.to KX G fun _ _ _ _ _ _ us hl => match us, hl with | [_], _ => rfl
    d_closed := h_7.to KX G fun _ _ _ _ _ _ us hl => match us, hl with | [_], _ => rfl
    d_are_few := h_8.to KX G fun _ _ _ _ _ _ us hl => match us, hl with | [_], _ => rfl
    d_wrong_position := h_9.to KX G fun _ _ _ _ _ _ us hl => match us, hl with | [_], _ => rfl
    d_want_triggers := h_10.to KX G fun _ _ _ _ _ _ us hl => match us, hl with | [_], _ => rfl
    d_want_makes := h_11.to KX G fun _ _ _ _ _ _ us hl => match us, hl with | [_], _ => rfl
    d_letters_in := h_12.to KX G fun _ _ _ _ _ _ us hl => match us, hl with | [_], _ => rfl
    d__law_pot := h_13.to KX G fun _ _ _ _ _ _ us hl => match us, hl with | [_, _], _ => rfl
    d__law_draw := h_14.to KX G fun _ _ _ _ _ _ us hl => match us, hl with | [_, _], _ => rfl
    d__law_pick := h_15.to KX G fun _ _ _ _ _ _ us hl => match us, hl with | [_, _], _ => rfl
    d__law_tags := h_16.to KX G fun _ _ _ _ _ _ us hl => match us, hl with | [_, _], _ => rfl
    d__law_all := h_17.to KX G fun _ _ _ _ _ _ us hl => match us, hl with | [_, _], _ => rfl
    d__law_lined := h_18.to KX G fun _ _ _ _ _ _ us hl => match us, hl with | [_], _ => rfl
    d__law_verses := h_19.to KX G fun _ _ _ _ _ _ us hl => match us, hl with | [_, _], _ => rfl
    d__law_saw := h_20.to KX G fun _ _ _ _ _ _ us hl => match us, hl with | [_, _], _ => rfl
    d__law_mixed := h_21.to KX G fun _ _ _ _ _ _ us hl => match us, hl with | [_, _], _ => rfl
    d__law_tags_in := h_22.to KX G fun _ _ _ _ _ _ us hl => match us, hl with | [_], _ => rfl
    d__law_closed := h_23.to KX G fun _ _ _ _ _ _ us hl => match us, hl with | [_], _ => rfl
    d__law_tells := h_24.to KX G fun _ _ _ _ _ _ us hl => match us, hl with | [_, _], _ => rfl
    d__law_near := h_25.to KX G fun _ _ _ _ _ _ us hl => match us, hl with | [_, _, _], _ => rfl
    d__law_right := h_26.to KX G fun _ _ _ _ _ _ us hl => match us, hl with | [_], _ => rfl
    d_law := h_27.to KX G fun _ _ _ _ _ _ us hl => match us, hl with | [_], _ => rfl
    g_WakeError := He.glo_ok KX G (fact hb 33 rfl)
    g_MissingError := He.glo_ok KX G (fact hb 34 rfl)
    g_InvalidWords := He.glo_ok KX G (fact hb 35 rfl)
    g_InvalidFront := He.glo_ok KX G (fact hb 36 rfl)
    g_InvalidTriggers := He.glo_ok KX G (fact hb 37 rfl)
    g_InvalidMakes := He.glo_ok KX G (fact hb 38 rfl)
    g_UnknownLetter := He.glo_ok KX G (fact hb 39 rfl)
    g_Front := He.glo_ok KX G (fact hb 40 rfl)
    g_Saying := He.glo_ok KX G (fact hb 41 rfl)
    k_Front_Saying := of_decide_eq_true (fact hb 42 rfl)
    kt_NoneType_Saying := of_decide_eq_true (fact hb 43 rfl)
    kt_int_Saying := of_decide_eq_true (fact hb 44 rfl)
    kt_tuple_Saying := of_decide_eq_true (fact hb 45 rfl)
    kt_list_Saying := of_decide_eq_true (fact hb 46 rfl)
    kt_str_Saying := of_decide_eq_true (fact hb 47 rfl)
    cv_Saying_MOST := PHW.conB_cv (fact hb 48 rfl)
    ci_Saying_MOST := PHW.conB_ci (fact hb 48 rfl)
    m_Saying___init__ := mfB_ok (fact hb 49 rfl) (PHU.fn_at hf 28 (d := fnOfM .m false "Saying" "__init__" "Saying.__init__" s_Saying___init__) rfl) (fun _ _ _ _ _ _ us hl => match us, hl with | [_, _, _], _ => rfl)
    m_Saying_triggers := mfB_ok (fact hb 50 rfl) (PHU.fn_at hf 29 (d := fnOfM .m false "Saying" "triggers" "Saying.triggers" s_Saying_triggers) rfl) (fun _ _ _ _ _ _ us hl => match us, hl with | [_], _ => rfl)
    m_Saying_makes := mfB_ok (fact hb 51 rfl) (PHU.fn_at hf 30 (d := fnOfM .m false "Saying" "makes" "Saying.makes" s_Saying_makes) rfl) (fun _ _ _ _ _ _ us hl => match us, hl with | [_], _ => rfl)
    m_Saying_letters := mfB_ok (fact hb 52 rfl) (PHU.fn_at hf 31 (d := fnOfM .m false "Saying" "letters" "Saying.letters" s_Saying_letters) rfl) (fun _ _ _ _ _ _ us hl => match us, hl with | [_], _ => rfl)
    m_Saying_make_letters := mfB_ok (fact hb 53 rfl) (PHU.fn_at hf 32 (d := fnOfM .m false "Saying" "make_letters" "Saying.make_letters" s_Saying_make_letters) rfl) (fun _ _ _ _ _ _ us hl => match us, hl with | [_], _ => rfl)
    m_Saying_trigger_front := mfB_ok (fact hb 54 rfl) (PHU.fn_at hf 33 (d := fnOfM .m false "Saying" "trigger_front" "Saying.trigger_front" s_Saying_trigger_front) rfl) (fun _ _ _ _ _ _ us hl => match us, hl with | [_], _ => rfl)
    m_Saying_make_front := mfB_ok (fact hb 55 rfl) (PHU.fn_at hf 34 (d := fnOfM .m false "Saying" "make_front" "Saying.make_front" s_Saying_make_front) rfl) (fun _ _ _ _ _ _ us hl => match us, hl with | [_], _ => rfl)
    m_Saying_with_triggers := mfB_ok (fact hb 56 rfl) (PHU.fn_at hf 35 (d := fnOfM .m false "Saying" "with_triggers" "Saying.with_triggers" s_Saying_with_triggers) rfl) (fun _ _ _ _ _ _ us hl => match us, hl with | [_, _], _ => rfl)
    m_Saying_with_makes := mfB_ok (fact hb 57 rfl) (PHU.fn_at hf 36 (d := fnOfM .m false "Saying" "with_makes" "Saying.with_makes" s_Saying_with_makes) rfl) (fun _ _ _ _ _ _ us hl => match us, hl with | [_, _], _ => rfl)
    m_Saying___eq__ := mfB_ok (fact hb 58 rfl) (PHU.fn_at hf 37 (d := fnOfM .m false "Saying" "__eq__" "Saying.__eq__" s_Saying___eq__) rfl) (fun _ _ _ _ _ _ us hl => match us, hl with | [_, _], _ => rfl)
    m_Saying___repr__ := mfB_ok (fact hb 59 rfl) (PHU.fn_at hf 38 (d := fnOfM .m false "Saying" "__repr__" "Saying.__repr__" s_Saying___repr__) rfl) (fun _ _ _ _ _ _ us hl => match us, hl with | [_], _ => rfl)
    m_Front___init__ := meB_ok (fact hb 60 rfl) (fact hb 61 rfl) (PHU.fn_at hf 39 (d := fnOfM .m true "Front" "__init__" "Front.__init__" s_Front___init__) rfl) (fun _ _ _ _ _ _ _ us its hl hi => match us, hl, its, hi with | [_, _], _, [_], _ => ⟨_, rfl, rfl⟩)
    m_Front_words := mfB_ok (fact hb 62 rfl) (PHU.fn_at hf 40 (d := fnOfM .m false "Front" "words" "Front.words" s_Front_words) rfl) (fun _ _ _ _ _ _ us hl => match us, hl with | [_], _ => rfl)
    m_Front___eq__ := mfB_ok (fact hb 63 rfl) (PHU.fn_at hf 41 (d := fnOfM .m false "Front" "__eq__" "Front.__eq__" s_Front___eq__) rfl) (fun _ _ _ _ _ _ us hl => match us, hl with | [_, _], _ => rfl)
    ne_Saying := of_decide_eq_true (fact hb 64 rfl)
    sf_Saying := (fact hb 65 rfl)
    ne_Front := of_decide_eq_true (fact hb 66 rfl)
    sf_Front := (fact hb 67 rfl)
    o_Saying := ocB_ok KX G (fact hb 68 rfl)
    o_Front := ocB_ok KX G (fact hb 69 rfl)
  }
  obtain ⟨f, oc, od, kV, doc, pm, an, cdv, ct, osl, g, l, c, k⟩ := h_27.ex
  have e := hfa.symm.trans (PySem.W.mg_of KX G g)
  cases e
  have F := fun_mk (st := s_law) l c k
  exact ⟨_, fun s u => .of_eq rfl, fun base _ _ tb => ok_law (T base tb) ⟨F, hfa, F.binds fun _ _ _ _ _ _ us hl => match us, hl with | [_], _ => rfl⟩⟩
def names0 : List Str := ["_wall", "WakeError", "MissingError", "InvalidWords", "InvalidFront", "InvalidTriggers", "InvalidMakes", "UnknownLetter", "MOST_SIGNS", "SIGNS", "is_list", "is_name", "LONGEST_WORD", "is_letter", "is_word", "want_words", "all_beginnings", "ordered", "want_front", "closed", "Front", "MOST_WORDS", "are_few", "wrong_position", "want_triggers", "want_makes", "letters_in", "Saying", "_law_pot", "_law_draw"]
def names1 : List Str := ["_law_pick", "_law_tags", "_law_all", "_law_lined", "_law_verses", "_law_saw", "_law_mixed", "_law_tags_in", "_law_closed", "_law_tells", "_law_near", "_law_right"]
def names : List Str := names0 ++ names1
abbrev R : PySem.W.OpenRow := PySem.W.OpenLaw.row PySem.Challenge.rw_wakesayings_k21_whole_sayings_by_own_lis
abbrev hk : PySem.W.Hook := PHU.hook 6 allB fnL tf
def ob (s : PySem.W.SharedT) : Bool × List He.FnV := PHU.obs 6 allB fnL tf (HandSHeadRun.getT s)
theorem ob_eq (s : PySem.W.SharedT) : ob s = hk.obs s.abs := PHU.obs_eq s
end K21

set_option Elab.async false
set_option maxRecDepth 100000
set_option maxHeartbeats 0
theorem K21.run (w : PySem.World) : HandSHeadRun.RunEq K21.R (PySem.W.view K21.R.prog [48]) K21.hk K21.ob 12000 K21.names w := by
  intro os
  kernel_rfl
open PySem PySem.W PySem.Calls PyProof.Rows
theorem PySem.Challenge.cw_wakesayings_k21_whole_sayings_by_own_lis_holds : PySem.Challenge.rw_wakesayings_k21_whole_sayings_by_own_lis.Holds := by
  w_on; o_law
  refine HandSHeadRun.head_any (r := OpenLaw.row PySem.Challenge.rw_wakesayings_k21_whole_sayings_by_own_lis) (q := view (OpenLaw.row PySem.Challenge.rw_wakesayings_k21_whole_sayings_by_own_lis).prog [48]) (H := K21.hk) (ob := K21.ob) (M := 12000) (loose := K21.names) (d := HandSHeadRun.topDef (OpenLaw.row PySem.Challenge.rw_wakesayings_k21_whole_sayings_by_own_lis).prog 48) (kwd := []) K21.ob_eq
    (by kernel_rfl) (fun s => by kernel_rfl) K21.run (by kernel_rfl) (by kernel_rfl) (by kernel_rfl) (by rfl) (by first | assumption | decide +kernel) (by decide +kernel) ⟨rfl, rfl, rfl, rfl, rfl, by decide +kernel⟩ ?hw ?hc
  case hw => w_witness2
  case hc =>
    refine PHT.walk (l := PySem.Challenge.rw_wakesayings_k21_whole_sayings_by_own_lis) (n := 63) (k := 15) (x := "_law_script") rfl (by decide) (by kernel_rfl) ⟨rfl, by decide, by decide⟩ ?F
    intro w mg fa h Y G hmg0
    obtain ⟨K, S⟩ := Y
    have hmg : mg ("law" : PySem.Str) = some (.ref fa) := by
      have e : (HandSHeadRun.topDef (OpenLaw.row PySem.Challenge.rw_wakesayings_k21_whole_sayings_by_own_lis).prog 48).name = ("law" : PySem.Str) := by kernel_rfl
      rw [← e]
      exact hmg0
    obtain ⟨fd, hb, hF⟩ := K21.told (P := (PySem.Challenge.rw_wakesayings_k21_whole_sayings_by_own_lis).prog) (w := w) G hmg S
    refine ⟨K, K21.tf.map (He.cT K), fd, K21.spLaw (PHT.tabs K K21.tf) K, S.into, fun p hp => ?_, fun p hp => ?_, fun p hp => ?_, hb, fun H a ns hl h1 h2 hS => ⟨a, ns, rfl, hS, PHT.tabs_pot h1 h2, fun _ => rfl⟩, hF⟩
    · obtain ⟨d, hd, rfl⟩ := List.mem_map.mp hp
      exact S.empty d hd
    · obtain ⟨d, hd, rfl⟩ := List.mem_map.mp hp
      exact S.out d hd
    · obtain ⟨d, hd, rfl⟩ := List.mem_map.mp hp
      exact PySem.W.codeHd_of_K S.into (S.hd d hd)

