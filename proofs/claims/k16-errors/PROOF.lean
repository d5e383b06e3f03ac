import PyProof.Rows.All
import Wide.All
import OpenK.AllK
import Wide.FinOn
import HandS.ForMost
import HandS.ExcInit
import HandS.ExcIs
import HandS.ExcField
import HandS.IsInst
import HandS.WideBits
import KE.KExcInit
import PyProof.ReprReads
import PyProof.StrHeap
import KE.KStateDown
import HandS.WordsExc
import HandS.Defaults
import HandS.Head0
import HandS.Head1
import HandS.Head2
import HandS.HeadEnd
import HandS.HeadHook1
import PySem.Challenge.RW_wakesayings_k16_errors
set_option Elab.async false
set_option linter.all false
set_option maxRecDepth 100000
set_option maxHeartbeats 2000000
/-! PD: data ahead of the heap. A value stands for data; a pot (a list of two ints that draws change) stands apart. -/
namespace PD
open PySem PySem.Spec L2

/-- what was tracked is as it was -/
def Ex (H H' : Hp) : Prop := ∀ a o, H a = some o → H' a = some o
theorem Ex.refl (H : Hp) : Ex H H := fun _ _ h => h
theorem Ex.trans {H H1 H2 : Hp} (a : Ex H H1) (b : Ex H1 H2) : Ex H H2 := fun x o h => b x o (a x o h)
theorem Ex.new {H : Hp} {p : Addr} {o : HO} (h : H p = none) : Ex H (upd H p o) := fun a u e => by
  rw [upd_ne (ne_of_none e h)]
  exact e
/-- plain data, instances and exceptions of own classes, the pot, anything else as it is -/
inductive D where
  | non | bl (b : Bool) | int (i : Int) | str (x : Str) | ty (n : String)
  | lst (xs : List D) | tup (xs : List D) | dct (kvs : List (Key × D))
  | obj (C : Addr) (fs : List (Str × D)) | exc (C : Addr) (fs : List (Str × D))
  | pot | raw (v : V)

mutual
/-- in the heap H (the pot's place left out) the value stands for the data -/
inductive R (z : Option Addr) (H : Hp) : V → D → Prop
  | non : R z H .non .non
  | bl (b : Bool) : R z H (.bl b) (.bl b)
  | int (i : Int) : R z H (.int i) (.int i)
  | str (x : Str) : R z H (.str x) (.str x)
  | ty (n : String) : R z H (.ty n) (.ty n)
  | raw (v : V) : R z H v (.raw v)
  | pot {a : Addr} : z = some a → R z H (.ref a) .pot
  | lst {a : Addr} {xs : List V} {ds : List D} : H a = some (.lst xs) → RA z H xs ds → R z H (.ref a) (.lst ds)
  | tup {a : Addr} {xs : List V} {ds : List D} : H a = some (.tup xs) → RA z H xs ds → R z H (.ref a) (.tup ds)
  | dct {a : Addr} {xs : List (Key × V)} {ds : List (Key × D)} : H a = some (.dK xs) → RK z H xs ds → R z H (.ref a) (.dct ds)
  | obj {a C dx : Addr} {xs : List (Str × V)} {ds : List (Str × D)} : H a = some (.ins C dx xs) → RF z H xs ds → R z H (.ref a) (.obj C ds)
  | exc {a C d : Addr} {xs : List (Str × V)} {ds : List (Str × D)} : H a = some (exo a C (some d)) → H d = some (exd d xs) → RF z H xs ds → R z H (.ref a) (.exc C ds)
  | exc0 {a C : Addr} : H a = some (exo a C none) → R z H (.ref a) (.exc C [])
inductive RA (z : Option Addr) (H : Hp) : List V → List D → Prop
  | nil : RA z H [] []
  | cons {v : V} {vs : List V} {d : D} {ds : List D} : R z H v d → RA z H vs ds → RA z H (v :: vs) (d :: ds)
inductive RK (z : Option Addr) (H : Hp) : List (Key × V) → List (Key × D) → Prop
  | nil : RK z H [] []
  | cons {k : Key} {v : V} {vs : List (Key × V)} {d : D} {ds : List (Key × D)} : R z H v d → RK z H vs ds → RK z H ((k, v) :: vs) ((k, d) :: ds)
inductive RF (z : Option Addr) (H : Hp) : List (Str × V) → List (Str × D) → Prop
  | nil : RF z H [] []
  | cons {k : Str} {v : V} {vs : List (Str × V)} {d : D} {ds : List (Str × D)} : R z H v d → RF z H vs ds → RF z H ((k, v) :: vs) ((k, d) :: ds)
end

mutual
theorem R.mono {z : Option Addr} {H H' : Hp} (e : Ex H H') : ∀ (d : D) (v : V), R z H v d → R z H' v d
  | .non, _, h => by cases h; exact .non
  | .bl _, _, h => by cases h; exact .bl _
  | .int _, _, h => by cases h; exact .int _
  | .str _, _, h => by cases h; exact .str _
  | .ty _, _, h => by cases h; exact .ty _
  | .pot, _, h => by cases h with | pot h => exact .pot h
  | .raw _, _, h => by cases h; exact .raw _
  | .lst ds, _, h => by cases h with | lst h1 h2 => exact .lst (e _ _ h1) (RA.mono e ds _ h2)
  | .tup ds, _, h => by cases h with | tup h1 h2 => exact .tup (e _ _ h1) (RA.mono e ds _ h2)
  | .dct ds, _, h => by cases h with | dct h1 h2 => exact .dct (e _ _ h1) (RK.mono e ds _ h2)
  | .obj _ ds, _, h => by cases h with | obj h1 h2 => exact .obj (e _ _ h1) (RF.mono e ds _ h2)
  | .exc _ ds, _, h => by
    cases h with
    | exc h1 h2 h3 => exact .exc (e _ _ h1) (e _ _ h2) (RF.mono e ds _ h3)
    | exc0 h1 => exact .exc0 (e _ _ h1)
theorem RA.mono {z : Option Addr} {H H' : Hp} (e : Ex H H') : ∀ (ds : List D) (vs : List V), RA z H vs ds → RA z H' vs ds
  | [], _, h => by cases h; exact .nil
  | d :: ds, _, h => by cases h with | cons h1 h2 => exact .cons (R.mono e d _ h1) (RA.mono e ds _ h2)
theorem RK.mono {z : Option Addr} {H H' : Hp} (e : Ex H H') : ∀ (ds : List (Key × D)) (vs : List (Key × V)), RK z H vs ds → RK z H' vs ds
  | [], _, h => by cases h; exact .nil
  | (_, d) :: ds, _, h => by cases h with | cons h1 h2 => exact .cons (R.mono e d _ h1) (RK.mono e ds _ h2)
theorem RF.mono {z : Option Addr} {H H' : Hp} (e : Ex H H') : ∀ (ds : List (Str × D)) (vs : List (Str × V)), RF z H vs ds → RF z H' vs ds
  | [], _, h => by cases h; exact .nil
  | (_, d) :: ds, _, h => by cases h with | cons h1 h2 => exact .cons (R.mono e d _ h1) (RF.mono e ds _ h2)
end

/-! ### lists of data -/
theorem RA.length {z : Option Addr} {H : Hp} : ∀ {ds : List D} {vs : List V}, RA z H vs ds → vs.length = ds.length
  | [], _, h => by cases h; rfl
  | _ :: ds, _, h => by cases h with | cons _ h2 => simp [RA.length h2]
theorem RA.append {z : Option Addr} {H : Hp} : ∀ {ds es : List D} {vs us : List V}, RA z H vs ds → RA z H us es → RA z H (vs ++ us) (ds ++ es)
  | [], _, _, _, h, g => by cases h; exact g
  | _ :: _, _, _, _, h, g => by cases h with | cons h1 h2 => exact .cons h1 (RA.append h2 g)
theorem RA.get {z : Option Addr} {H : Hp} : ∀ {ds : List D} {vs : List V} {i : Nat} {v : V}, RA z H vs ds → vs[i]? = some v → ∃ d, ds[i]? = some d ∧ R z H v d
  | [], _, _, _, h, e => by cases h; simp at e
  | _ :: _, _, 0, _, h, e => by cases h with | cons h1 _ => simp at e; subst e; exact ⟨_, rfl, h1⟩
  | _ :: _, _, i + 1, _, h, e => by cases h with | cons _ h2 => simpa using RA.get (i := i) h2 (by simpa using e)
theorem RA.get' {z : Option Addr} {H : Hp} : ∀ {ds : List D} {vs : List V} {i : Nat} {d : D}, RA z H vs ds → ds[i]? = some d → ∃ v, vs[i]? = some v ∧ R z H v d
  | [], _, _, _, _, e => by simp at e
  | _ :: _, _, 0, _, h, e => by cases h with | cons h1 _ => simp at e; subst e; exact ⟨_, rfl, h1⟩
  | _ :: _, _, i + 1, _, h, e => by cases h with | cons _ h2 => simpa using RA.get' (i := i) h2 (by simpa using e)
theorem RA.take {z : Option Addr} {H : Hp} : ∀ (n : Nat) {ds : List D} {vs : List V}, RA z H vs ds → RA z H (vs.take n) (ds.take n)
  | 0, _, _, _ => by simp; exact .nil
  | _ + 1, [], _, h => by cases h; exact .nil
  | n + 1, _ :: _, _, h => by cases h with | cons h1 h2 => exact .cons h1 (RA.take n h2)
theorem RA.drop {z : Option Addr} {H : Hp} : ∀ (n : Nat) {ds : List D} {vs : List V}, RA z H vs ds → RA z H (vs.drop n) (ds.drop n)
  | 0, _, _, h => by simpa using h
  | _ + 1, [], _, h => by cases h; exact .nil
  | n + 1, _ :: _, _, h => by cases h with | cons h1 h2 => simpa using RA.drop n h2
theorem RA.replicate {z : Option Addr} {H : Hp} {v : V} {d : D} (h : R z H v d) : ∀ n : Nat, RA z H (List.replicate n v) (List.replicate n d)
  | 0 => .nil
  | n + 1 => .cons h (RA.replicate h n)
theorem RF.lookup {z : Option Addr} {H : Hp} {f : Str} {d : D} : ∀ {ds : List (Str × D)} {vs : List (Str × V)}, RF z H vs ds → ds.lookup f = some d → ∃ v, vs.lookup f = some v ∧ R z H v d
  | [], _, _, e => by simp at e
  | (k, d') :: ds, _, h, e => by
    cases h with
    | @cons _ v vs _ _ h1 h2 =>
      rw [List.lookup_cons] at e ⊢
      by_cases q : (f == k) = true
      · rw [q] at e ⊢
        cases e
        exact ⟨v, rfl, h1⟩
      · have q' : (f == k) = false := by simpa using q
        rw [q'] at e ⊢
        exact RF.lookup h2 e

/-! ### the pot's place left out, and further places hs that are held elsewhere -/
noncomputable def hid (z : Option Addr) (hs : Addr → Prop) (H : Hp) : Hp := fun b => open Classical in if z = some b ∨ hs b then none else H b
theorem hid_ne {z : Option Addr} {hs : Addr → Prop} {H : Hp} {b : Addr} (h : z ≠ some b) (h' : ¬ hs b) : hid z hs H b = H b := if_neg (by rintro (q | q); exact h q; exact h' q)
theorem hid_some {z : Option Addr} {hs : Addr → Prop} {H : Hp} {b : Addr} {o : HO} (h : hid z hs H b = some o) : z ≠ some b ∧ ¬ hs b ∧ H b = some o := by
  unfold hid at h
  split at h
  · cases h
  · rename_i q
    exact ⟨fun e => q (.inl e), fun e => q (.inr e), h⟩
theorem hid_sub {z : Option Addr} {hs : Addr → Prop} {H : Hp} : Ex (hid z hs H) H := fun a o h => (hid_some h).2.2
theorem hid_less {z : Option Addr} {hs hs' : Addr → Prop} {H : Hp} (i : ∀ a, hs' a → hs a) : Ex (hid z hs H) (hid z hs' H) := fun a o h => by
  obtain ⟨h1, h2, h3⟩ := hid_some h
  rw [hid_ne h1 fun q => h2 (i a q)]
  exact h3
/-- all but the pot as it was -/
def ExZ (z : Option Addr) (H H' : Hp) : Prop := ∀ a o, z ≠ some a → H a = some o → H' a = some o
theorem ExZ.refl (z : Option Addr) (H : Hp) : ExZ z H H := fun _ _ _ h => h
theorem ExZ.trans {z : Option Addr} {H H1 H2 : Hp} (a : ExZ z H H1) (b : ExZ z H1 H2) : ExZ z H H2 := fun x o n h => b x o n (a x o n h)
theorem exz_hid {z : Option Addr} {hs : Addr → Prop} {H H' : Hp} (e : ExZ z H H') : Ex (hid z hs H) (hid z hs H') := fun a o h => by
  obtain ⟨n, m, h⟩ := hid_some h
  rw [hid_ne n m]
  exact e a o n h
theorem ExZ.of {z : Option Addr} {H H' : Hp} (e : Ex H H') : ExZ z H H' := fun a o _ h => e a o h
theorem ExZ.new {z : Option Addr} {H : Hp} {p : Addr} {o : HO} (h : H p = none) : ExZ z H (upd H p o) := .of (Ex.new h)
/-- the pot holds two ints, not below nought, the first one not too long, the second one small -/
def PotAt (z : Option Addr) (H : Hp) : Prop := ∀ a, z = some a → ∃ i j : Int, H a = some (.lst [.int i, .int j]) ∧ 0 ≤ i ∧ 0 ≤ j ∧ j < 2147483648
theorem PotAt.keep {z : Option Addr} {H H' : Hp} (p : PotAt z H) (e : Ex H H') : PotAt z H' := fun a q => by
  obtain ⟨i, j, h, r⟩ := p a q
  exact ⟨i, j, e _ _ h, r⟩
/-- the pot is one, and what is held elsewhere is there -/
structure Ok (z : Option Addr) (hs : Addr → Prop) (H : Hp) : Prop where
  pot : PotAt z H
  tr : ∀ a, hs a → z ≠ some a ∧ ∃ o, H a = some o
theorem Ok.next {z : Option Addr} {hs : Addr → Prop} {H H' : Hp} (p : Ok z hs H) (e : ExZ z H H') (q : PotAt z H') : Ok z hs H' :=
  ⟨q, fun a h => by
    obtain ⟨n, o, ho⟩ := p.tr a h
    exact ⟨n, o, e a o n ho⟩⟩
theorem Ok.new {z : Option Addr} {hs : Addr → Prop} {H : Hp} {p : Addr} {o : HO} (h : Ok z hs H) (n : H p = none) : Ok z hs (upd H p o) := h.next (ExZ.new n) (h.pot.keep (Ex.new n))
theorem Ok.off {z : Option Addr} {hs : Addr → Prop} {H : Hp} {p : Addr} (h : Ok z hs H) (n : H p = none) : z ≠ some p ∧ ¬ hs p := by
  refine ⟨fun e => ?_, fun e => ?_⟩
  · obtain ⟨i, j, q, _⟩ := h.pot p e
    rw [n] at q
    cases q
  · obtain ⟨_, o, q⟩ := h.tr p e
    rw [n] at q
    cases q

/-! ### slots -/
inductive SR (z : Option Addr) (H : Hp) : L2.St → List (Option D) → Prop
  | nil : SR z H [] []
  | no {x : Option V} {σ : L2.St} {ρ : List (Option D)} : SR z H σ ρ → SR z H (x :: σ) (none :: ρ)
  | yes {v : V} {d : D} {σ : L2.St} {ρ : List (Option D)} : R z H v d → SR z H σ ρ → SR z H (some v :: σ) (some d :: ρ)
theorem SR.mono {z : Option Addr} {H H' : Hp} (e : Ex H H') {σ : L2.St} {ρ : List (Option D)} (h : SR z H σ ρ) : SR z H' σ ρ := by
  induction h with
  | nil => exact .nil
  | no _ ih => exact .no ih
  | yes h1 _ ih => exact .yes (R.mono e _ _ h1) ih
theorem SR.get {z : Option Addr} {H : Hp} {σ : L2.St} {ρ : List (Option D)} (h : SR z H σ ρ) : ∀ {i : Nat} {d : D}, ρ[i]? = some (some d) → ∃ v, σ[i]? = some (some v) ∧ R z H v d := by
  induction h with
  | nil => intro i d e; simp at e
  | no _ ih =>
    intro i d e
    cases i with
    | zero => simp at e
    | succ i => simpa using ih (by simpa using e)
  | yes h1 _ ih =>
    intro i d e
    cases i with
    | zero => simp at e; subst e; exact ⟨_, rfl, h1⟩
    | succ i => simpa using ih (by simpa using e)
theorem SR.set {z : Option Addr} {H : Hp} {v : V} {d : D} (r : R z H v d) {σ : L2.St} {ρ : List (Option D)} (h : SR z H σ ρ) : ∀ (i : Nat), SR z H (σ.set i (some v)) (ρ.set i (some d)) := by
  induction h with
  | nil => intro i; simp; exact .nil
  | no h ih =>
    intro i
    cases i with
    | zero => exact .yes r h
    | succ i => exact .no (ih i)
  | yes h1 h ih =>
    intro i
    cases i with
    | zero => exact .yes r h
    | succ i => exact .yes h1 (ih i)
theorem SR.none {z : Option Addr} {H : Hp} {σ : L2.St} {ρ : List (Option D)} (h : SR z H σ ρ) : ∀ (i : Nat), SR z H (σ.set i none) (ρ.set i none) := by
  induction h with
  | nil => intro i; simp; exact .nil
  | no h ih =>
    intro i
    cases i with
    | zero => exact .no h
    | succ i => exact .no (ih i)
  | yes h1 h ih =>
    intro i
    cases i with
    | zero => exact .no h
    | succ i => exact .yes h1 (ih i)
theorem SR.len {z : Option Addr} {H : Hp} {σ : L2.St} {ρ : List (Option D)} (h : SR z H σ ρ) : σ.length = ρ.length := by
  induction h with
  | nil => rfl
  | no _ ih => simp [ih]
  | yes _ _ ih => simp [ih]
def wipeD (ρ : List (Option D)) : List Nat → List (Option D)
  | [] => ρ
  | v :: vs => (wipeD ρ vs).set v none
theorem SR.wipe {z : Option Addr} {H : Hp} {σ : L2.St} {ρ : List (Option D)} (h : SR z H σ ρ) : ∀ vs : List Nat, SR z H (wipe σ vs) (wipeD ρ vs)
  | [] => h
  | v :: vs => (SR.wipe h vs).none v
def startD (N : List Str) (ds : List D) : List (Option D) := ds.map some ++ List.replicate (N.length - ds.length) none
theorem sr_nones {z : Option Addr} {H : Hp} : ∀ n : Nat, SR z H (List.replicate n none) (List.replicate n none)
  | 0 => .nil
  | n + 1 => .no (sr_nones n)
theorem sr_app {z : Option Addr} {H : Hp} {σ' : L2.St} {ρ' : List (Option D)} (g : SR z H σ' ρ') : ∀ {ds : List D} {vs : List V}, RA z H vs ds → SR z H (vs.map some ++ σ') (ds.map some ++ ρ')
  | [], _, h => by cases h; exact g
  | _ :: _, _, h => by cases h with | cons h1 h2 => exact .yes h1 (sr_app g h2)
theorem sr_start {z : Option Addr} {H : Hp} {N : List Str} {ds : List D} {vs : List V} (h : RA z H vs ds) : SR z H (L2.start N vs) (startD N ds) := by
  unfold L2.start startD
  rw [h.length]
  exact sr_app (sr_nones _) h

/-! ### what an expression gives, as data -/
section
variable (z : Option Addr)
/-- an end: v for d, in a heap in which all but the pot is as it was -/
def Wd (hs : Addr → Prop) (H : Hp) (P : D → Prop) (Q : VK) : Prop := ∀ v H' d, ExZ z H H' → Ok z hs H' → R z (hid z hs H') v d → P d → Q v H'
def E1 (te : TE) (ρ : List (Option D)) (P : D → Prop) : Prop := ∀ hs σ H, Ok z hs H → SR z (hid z hs H) σ ρ → ∀ Q : VK, Wd z hs H P Q → te σ H Q
def EA (ta : TA) (ρ : List (Option D)) (P : List D → Prop) : Prop := ∀ hs σ H, Ok z hs H → SR z (hid z hs H) σ ρ → ∀ Q : List V → Hp → Prop, (∀ vs H' ds, ExZ z H H' → Ok z hs H' → RA z (hid z hs H') vs ds → P ds → Q vs H') → ta σ H Q
def ET (tt : TT) (ρ : List (Option D)) (P : Bool → Prop) : Prop := ∀ hs σ H, Ok z hs H → SR z (hid z hs H) σ ρ → ∀ Q : Bool → Hp → Prop, (∀ b H', ExZ z H H' → Ok z hs H' → P b → Q b H') → tt σ H Q
def EO (tt : TO) (ρ : List (Option D)) (P : Option Int → Prop) : Prop := ∀ hs σ H, Ok z hs H → SR z (hid z hs H) σ ρ → ∀ Q : Option Int → Hp → Prop, (∀ b H', ExZ z H H' → Ok z hs H' → P b → Q b H') → tt σ H Q
/-- a two-place operation, a one-place one, a call, a method, by data -/
def O2 (r : R2) (d e : D) (P : D → Prop) : Prop := ∀ hs x y H, Ok z hs H → R z (hid z hs H) x d → R z (hid z hs H) y e → ∀ Q : VK, Wd z hs H P Q → r x y H Q
def O1 (r : V → Hp → VK → Prop) (d : D) (P : D → Prop) : Prop := ∀ hs x H, Ok z hs H → R z (hid z hs H) x d → ∀ Q : VK, Wd z hs H P Q → r x H Q
def OC (r : List V → Hp → VK → Prop) (ds : List D) (P : D → Prop) : Prop := ∀ hs xs H, Ok z hs H → RA z (hid z hs H) xs ds → ∀ Q : VK, Wd z hs H P Q → r xs H Q
def OM (r : V → List V → Hp → VK → Prop) (d : D) (ds : List D) (P : D → Prop) : Prop := ∀ hs x xs H, Ok z hs H → R z (hid z hs H) x d → RA z (hid z hs H) xs ds → ∀ Q : VK, Wd z hs H P Q → r x xs H Q
end
section
variable {z : Option Addr} {hs : Addr → Prop} {ρ : List (Option D)} {P P' : D → Prop} {PL : List D → Prop} {PB : Bool → Prop} {te ta tb tc : TE} {tr : TA} {tt tu : TT} {H H1 : Hp} {Q : VK}

theorem Wd.back (w : Wd z hs H P Q) (e : ExZ z H H1) : Wd z hs H1 P Q := fun v H' d e' p r q => w v H' d (e.trans e') p r q
theorem Wd.here (w : Wd z hs H P Q) (p : Ok z hs H) {v : V} {d : D} (r : R z (hid z hs H) v d) (q : P d) : Q v H := w v H d (ExZ.refl z H) p r q
theorem Wd.imp (w : Wd z hs H P Q) (h : ∀ d, P' d → P d) : Wd z hs H P' Q := fun v H' d e p r q => w v H' d e p r (h d q)

theorem e_var {i : Nat} {d : D} (h : ρ[i]? = some (some d)) (q : P d) : E1 z (tVar i) ρ P := fun hs σ H p s Q w => by
  obtain ⟨v, hv, r⟩ := s.get h
  exact ⟨v, hv, w.here p r q⟩
theorem e_int {i : Int} (q : P (.int i)) : E1 z (tC (.int i)) ρ P := fun hs σ H p s Q w => w.here p (.int i) q
theorem e_bl {i : Bool} (q : P (.bl i)) : E1 z (tC (.bl i)) ρ P := fun hs σ H p s Q w => w.here p (.bl i) q
theorem e_str {i : Str} (q : P (.str i)) : E1 z (tC (.str i)) ρ P := fun hs σ H p s Q w => w.here p (.str i) q
theorem e_non (q : P .non) : E1 z (tC .non) ρ P := fun hs σ H p s Q w => w.here p .non q
theorem e_raw {v : V} (q : P (.raw v)) : E1 z (tC v) ρ P := fun hs σ H p s Q w => w.here p (.raw v) q
theorem e_imp (h : E1 z te ρ P') (i : ∀ d, P' d → P d) : E1 z te ρ P := fun hs σ H p s Q w => h hs σ H p s Q (w.imp i)
theorem e_op {r : R2} (h : E1 z ta ρ fun d => E1 z tb ρ fun e => O2 z r d e P) : E1 z (tOp r ta tb) ρ P := fun hs σ H p s Q w =>
  h hs σ H p s _ fun x H1 d e1 p1 rx h1 => h1 hs σ H1 p1 (s.mono (exz_hid e1)) _ fun y H2 e e2 p2 ry h2 => h2 hs x y H2 p2 (R.mono (exz_hid e2) _ _ rx) ry Q (w.back (e1.trans e2))
theorem e_un {r : V → Hp → VK → Prop} (h : E1 z ta ρ fun d => O1 z r d P) : E1 z (tUn r ta) ρ P := fun hs σ H p s Q w =>
  h hs σ H p s _ fun x H1 d e1 p1 rx h1 => h1 hs x H1 p1 rx Q (w.back e1)
theorem a_nil (q : PL []) : EA z tNil ρ PL := fun hs σ H p s Q w => w [] H [] (ExZ.refl z H) p .nil q
theorem a_cons (h : E1 z ta ρ fun d => EA z tr ρ fun ds => PL (d :: ds)) : EA z (tCons ta tr) ρ PL := fun hs σ H p s Q w =>
  h hs σ H p s _ fun x H1 d e1 p1 rx h1 => h1 hs σ H1 p1 (s.mono (exz_hid e1)) _ fun xs H2 ds e2 p2 rs q => w _ H2 _ (e1.trans e2) p2 (.cons (R.mono (exz_hid e2) _ _ rx) rs) q
theorem o_none {PO : Option Int → Prop} (q : PO none) : EO z tNoPart ρ PO := fun hs σ H p s Q w => w none H (ExZ.refl z H) p q
theorem o_some {PO : Option Int → Prop} (h : E1 z te ρ fun d => ∃ i, d = .int i ∧ PO (some i)) : EO z (tPart te) ρ PO := fun hs σ H p s Q w =>
  h hs σ H p s _ fun x H1 d e1 p1 rx ⟨i, ei, q⟩ => by
    subst ei
    cases rx
    exact ⟨i, rfl, w _ H1 e1 p1 q⟩
/-- a new object -/
theorem new_w (w : Wd z hs H P Q) (p : Ok z hs H) {a : Addr} (n : H a = none) {o : HO} {d : D} (r : ∀ H', H' a = some o → Ex (hid z hs H) H' → R z H' (.ref a) d) (q : P d) : Q (.ref a) (upd H a o) := by
  obtain ⟨n1, n2⟩ := p.off n
  refine w _ _ d (ExZ.new n) (p.new n) (r _ ?_ (exz_hid (ExZ.new n))) q
  rw [hid_ne n1 n2, upd_same]
theorem e_tup (h : EA z tr ρ fun ds => ds.length ≤ sizeLine ∧ P (.tup ds)) : E1 z (tTup tr) ρ P := fun hs σ H p s Q w =>
  h hs σ H p s _ fun xs H1 ds e1 p1 rs ⟨hl, q⟩ => ⟨by rw [rs.length]; exact hl, fun a n => new_w (w.back e1) p1 n (fun H' h1 h2 => .tup h1 (RA.mono h2 _ _ rs)) q⟩
theorem e_lst (h : EA z tr ρ fun ds => ds.length ≤ sizeLine ∧ P (.lst ds)) : E1 z (tLst tr) ρ P := fun hs σ H p s Q w =>
  h hs σ H p s _ fun xs H1 ds e1 p1 rs ⟨hl, q⟩ => ⟨by rw [rs.length]; exact hl, fun a n => new_w (w.back e1) p1 n (fun H' h1 h2 => .lst h1 (RA.mono h2 _ _ rs)) q⟩
theorem e_cb {r : List V → Hp → VK → Prop} (h : EA z tr ρ fun ds => OC z r ds P) : E1 z (tCB r tr) ρ P := fun hs σ H p s Q w =>
  h hs σ H p s _ fun xs H1 ds e1 p1 rs h1 => h1 hs xs H1 p1 rs Q (w.back e1)
theorem e_sl {r : V → Option Int → Option Int → Hp → VK → Prop} {tl th : TO} (h : E1 z te ρ fun d => EO z tl ρ fun lo => EO z th ρ fun hi => O1 z (fun x => r x lo hi) d P) : E1 z (tSl r te tl th) ρ P := fun hs σ H p s Q w =>
  h hs σ H p s _ fun x H1 d e1 p1 rx h1 => h1 hs σ H1 p1 (s.mono (exz_hid e1)) _ fun lo H2 e2 p2 h2 => h2 hs σ H2 p2 (s.mono (exz_hid (e1.trans e2))) _ fun hi H3 e3 p3 h3 =>
    h3 hs x H3 p3 (R.mono (exz_hid (e2.trans e3)) _ _ rx) Q (w.back (e1.trans (e2.trans e3)))
theorem e_if (h : ET z tt ρ fun b => if b = true then E1 z ta ρ P else E1 z tb ρ P) : E1 z (tIf tt ta tb) ρ P := fun hs σ H p s Q w =>
  h hs σ H p s _ fun b H1 e1 p1 h1 => by
    cases b with
    | true =>
      rw [if_pos rfl] at h1 ⊢
      exact h1 hs σ H1 p1 (s.mono (exz_hid e1)) Q (w.back e1)
    | false =>
      rw [if_neg (by decide)] at h1 ⊢
      exact h1 hs σ H1 p1 (s.mono (exz_hid e1)) Q (w.back e1)
theorem e_andV (h : E1 z ta ρ fun d => ∃ b, d = .bl b ∧ if b = true then E1 z tb ρ P else P (.bl false)) : E1 z (tAndV ta tb) ρ P := fun hs σ H p s Q w =>
  h hs σ H p s _ fun x H1 d e1 p1 rx ⟨b, eb, h1⟩ => by
    subst eb
    cases rx
    refine ⟨b, rfl, ?_⟩
    cases b with
    | true =>
      rw [if_pos rfl] at h1 ⊢
      exact h1 hs σ H1 p1 (s.mono (exz_hid e1)) Q (w.back e1)
    | false =>
      rw [if_neg (by decide)] at h1 ⊢
      exact (w.back e1).here p1 (.bl false) h1
theorem e_orV (h : E1 z ta ρ fun d => ∃ b, d = .bl b ∧ if b = true then P (.bl true) else E1 z tb ρ P) : E1 z (tOrV ta tb) ρ P := fun hs σ H p s Q w =>
  h hs σ H p s _ fun x H1 d e1 p1 rx ⟨b, eb, h1⟩ => by
    subst eb
    cases rx
    refine ⟨b, rfl, ?_⟩
    cases b with
    | true =>
      rw [if_pos rfl] at h1 ⊢
      exact (w.back e1).here p1 (.bl true) h1
    | false =>
      rw [if_neg (by decide)] at h1 ⊢
      exact h1 hs σ H1 p1 (s.mono (exz_hid e1)) Q (w.back e1)
theorem e_notV (h : E1 z ta ρ fun d => ∃ b, d = .bl b ∧ P (.bl (!b))) : E1 z (tNotV ta) ρ P := fun hs σ H p s Q w =>
  h hs σ H p s _ fun x H1 d e1 p1 rx ⟨b, eb, h1⟩ => by
    subst eb
    cases rx
    exact ⟨b, rfl, (w.back e1).here p1 (.bl _) h1⟩
theorem t_test (h : E1 z te ρ fun d => ∃ b, d = .bl b ∧ PB b) : ET z (tTest te) ρ PB := fun hs σ H p s Q w =>
  h hs σ H p s _ fun x H1 d e1 p1 rx ⟨b, eb, h1⟩ => by
    subst eb
    cases rx
    exact ⟨b, rfl, w b H1 e1 p1 h1⟩
theorem t_B (h : E1 z te ρ fun d => ∃ b, d = .bl b ∧ PB b) : ET z (tB te) ρ PB := t_test h
theorem t_and (h : ET z tt ρ fun b => if b = true then ET z tu ρ PB else PB false) : ET z (tAnd tt tu) ρ PB := fun hs σ H p s Q w =>
  h hs σ H p s _ fun b H1 e1 p1 h1 => by
    cases b with
    | true =>
      rw [if_pos rfl] at h1 ⊢
      exact h1 hs σ H1 p1 (s.mono (exz_hid e1)) Q fun b H2 e2 => w b H2 (e1.trans e2)
    | false =>
      rw [if_neg (by decide)] at h1 ⊢
      exact w false H1 e1 p1 h1
theorem t_or (h : ET z tt ρ fun b => if b = true then PB true else ET z tu ρ PB) : ET z (tOr tt tu) ρ PB := fun hs σ H p s Q w =>
  h hs σ H p s _ fun b H1 e1 p1 h1 => by
    cases b with
    | true =>
      rw [if_pos rfl] at h1 ⊢
      exact w true H1 e1 p1 h1
    | false =>
      rw [if_neg (by decide)] at h1 ⊢
      exact h1 hs σ H1 p1 (s.mono (exz_hid e1)) Q fun b H2 e2 => w b H2 (e1.trans e2)
theorem t_not (h : ET z tt ρ fun b => PB (!b)) : ET z (tNot tt) ρ PB := fun hs σ H p s Q w =>
  h hs σ H p s _ fun b H1 e1 p1 h1 => w _ H1 e1 p1 h1
theorem t_imp {PB' : Bool → Prop} (h : ET z tt ρ PB') (i : ∀ d, PB' d → PB d) : ET z tt ρ PB := fun hs σ H p s Q w => h hs σ H p s Q fun b H1 e1 p1 h1 => w b H1 e1 p1 (i b h1)
end

/-! ### slots of a def's frame: un nothing told, va data, ow a list that only this slot holds -/
inductive Sl where
  | un | va (d : D) | ow (ds : List D)
/-- as an expression reads them: what is owned is not seen -/
def Sl.dat : Sl → Option D
  | .va d => some d
  | _ => none
/-- as an expression reads them whose value is flat: what is owned is a list -/
def Sl.see : Sl → Option D
  | .va d => some d
  | .ow ds => some (.lst ds)
  | .un => none
inductive SO (z : Option Addr) (G H : Hp) (O : List Addr) : L2.St → List Sl → Prop
  | nil : SO z G H O [] []
  | un {x : Option V} {σ : L2.St} {ρ : List Sl} : SO z G H O σ ρ → SO z G H O (x :: σ) (.un :: ρ)
  | va {v : V} {d : D} {σ : L2.St} {ρ : List Sl} : R z G v d → SO z G H O σ ρ → SO z G H O (some v :: σ) (.va d :: ρ)
  | ow {p : Addr} {vs : List V} {ds : List D} {σ : L2.St} {ρ : List Sl} : p ∈ O → H p = some (.lst vs) → RA z G vs ds → SO z G H O σ ρ → SO z G H O (some (.ref p) :: σ) (.ow ds :: ρ)
end PD

set_option Elab.async false
set_option linter.all false
set_option maxRecDepth 100000
set_option maxHeartbeats 2000000
/-! PD2: statements over data; owned lists; walks; targets; a def's promise. -/
namespace PD
open PySem PySem.Spec L2

abbrev hsO (hs : Addr → Prop) (O : List Addr) : Addr → Prop := fun a => hs a ∨ a ∈ O
/-- the slots: what each holds; the owned lists' places in order -/
inductive SS (z : Option Addr) (G H : Hp) : L2.St → List Sl → List Addr → Prop
  | nil : SS z G H [] [] []
  | un {x : Option V} {σ : L2.St} {ρ : List Sl} {O : List Addr} : SS z G H σ ρ O → SS z G H (x :: σ) (.un :: ρ) O
  | va {v : V} {d : D} {σ : L2.St} {ρ : List Sl} {O : List Addr} : R z G v d → SS z G H σ ρ O → SS z G H (some v :: σ) (.va d :: ρ) O
  | ow {p : Addr} {vs : List V} {ds : List D} {σ : L2.St} {ρ : List Sl} {O : List Addr} : H p = some (.lst vs) → RA z G vs ds → SS z G H σ ρ O → SS z G H (some (.ref p) :: σ) (.ow ds :: ρ) (p :: O)
section
variable {z : Option Addr} {G G' H H' : Hp} {σ : L2.St} {ρ : List Sl} {O : List Addr}
theorem SS.len (h : SS z G H σ ρ O) : σ.length = ρ.length := by
  induction h with
  | nil => rfl
  | un _ ih => simp [ih]
  | va _ _ ih => simp [ih]
  | ow _ _ _ ih => simp [ih]
theorem SS.there (h : SS z G H σ ρ O) : ∀ p ∈ O, ∃ vs, H p = some (.lst vs) := by
  induction h with
  | nil => intro p hp; cases hp
  | un _ ih => exact ih
  | va _ _ ih => exact ih
  | ow h1 _ _ ih =>
    intro p hp
    rcases List.mem_cons.mp hp with rfl | hp
    · exact ⟨_, h1⟩
    · exact ih p hp
theorem SS.mono (h : SS z G H σ ρ O) (e : Ex G G') (k : ∀ p ∈ O, ∀ o, H p = some o → H' p = some o) : SS z G' H' σ ρ O := by
  induction h with
  | nil => exact .nil
  | un _ ih => exact .un (ih k)
  | va h1 _ ih => exact .va (R.mono e _ _ h1) (ih k)
  | ow h1 h2 _ ih => exact .ow (k _ (List.mem_cons_self ..) _ h1) (RA.mono e _ _ h2) (ih fun p hp => k p (List.mem_cons_of_mem _ hp))
theorem SS.dat (h : SS z G H σ ρ O) : SR z G σ (ρ.map Sl.dat) := by
  induction h with
  | nil => exact .nil
  | un _ ih => exact .no ih
  | va h1 _ ih => exact .yes h1 ih
  | ow _ _ _ ih => exact .no ih
theorem SS.see (h : SS z G H σ ρ O) (e : Ex G G') (k : ∀ p ∈ O, ∀ o, H p = some o → G' p = some o) : SR z G' σ (ρ.map Sl.see) := by
  induction h with
  | nil => exact .nil
  | un _ ih => exact .no (ih k)
  | va h1 _ ih => exact .yes (R.mono e _ _ h1) (ih k)
  | ow h1 h2 _ ih => exact .yes (.lst (k _ (List.mem_cons_self ..) _ h1) (RA.mono e _ _ h2)) (ih fun p hp => k p (List.mem_cons_of_mem _ hp))
/-- a slot gets something else: what it owned is let go -/
theorem SS.setVa (h : SS z G H σ ρ O) {v : V} {d : D} (r : R z G v d) : ∀ i, ∃ O', O'.Sublist O ∧ SS z G H (σ.set i (some v)) (ρ.set i (.va d)) O' := by
  induction h with
  | nil => intro i; exact ⟨[], .slnil, by simp; exact .nil⟩
  | un h ih =>
    intro i
    cases i with
    | zero => exact ⟨_, List.Sublist.refl _, .va r h⟩
    | succ i =>
      obtain ⟨O', s, q⟩ := ih i
      exact ⟨O', s, .un q⟩
  | va h1 h ih =>
    intro i
    cases i with
    | zero => exact ⟨_, List.Sublist.refl _, .va r h⟩
    | succ i =>
      obtain ⟨O', s, q⟩ := ih i
      exact ⟨O', s, .va h1 q⟩
  | ow h1 h2 h ih =>
    intro i
    cases i with
    | zero => exact ⟨_, List.sublist_cons_self _ _, .va r h⟩
    | succ i =>
      obtain ⟨O', s, q⟩ := ih i
      exact ⟨_ :: O', s.cons₂ _, .ow h1 h2 q⟩
theorem SS.setUn (h : SS z G H σ ρ O) (x : Option V) : ∀ i, ∃ O', O'.Sublist O ∧ SS z G H (σ.set i x) (ρ.set i .un) O' := by
  induction h with
  | nil => intro i; exact ⟨[], .slnil, by simp; exact .nil⟩
  | un h ih =>
    intro i
    cases i with
    | zero => exact ⟨_, List.Sublist.refl _, .un h⟩
    | succ i =>
      obtain ⟨O', s, q⟩ := ih i
      exact ⟨O', s, .un q⟩
  | va h1 h ih =>
    intro i
    cases i with
    | zero => exact ⟨_, List.Sublist.refl _, .un h⟩
    | succ i =>
      obtain ⟨O', s, q⟩ := ih i
      exact ⟨O', s, .va h1 q⟩
  | ow h1 h2 h ih =>
    intro i
    cases i with
    | zero => exact ⟨_, List.sublist_cons_self _ _, .un h⟩
    | succ i =>
      obtain ⟨O', s, q⟩ := ih i
      exact ⟨_ :: O', s.cons₂ _, .ow h1 h2 q⟩
/-- a slot gets a list of its own -/
theorem SS.setOw (h : SS z G H σ ρ O) {p : Addr} {vs : List V} {ds : List D} (hp : H p = some (.lst vs)) (r : RA z G vs ds) (np : p ∉ O) (nd : O.Nodup) : ∀ i, i < ρ.length → ∃ O', (∀ q ∈ O', q = p ∨ q ∈ O) ∧ O'.Nodup ∧ SS z G H (σ.set i (some (.ref p))) (ρ.set i (.ow ds)) O' := by
  induction h with
  | nil => intro i hi; simp at hi
  | un h ih =>
    intro i hi
    cases i with
    | zero => exact ⟨p :: _, fun q hq => List.mem_cons.mp hq, List.nodup_cons.mpr ⟨np, nd⟩, .ow hp r h⟩
    | succ i =>
      obtain ⟨O', s, n, q⟩ := ih np nd i (by simpa using hi)
      exact ⟨O', s, n, .un q⟩
  | va h1 h ih =>
    intro i hi
    cases i with
    | zero => exact ⟨p :: _, fun q hq => List.mem_cons.mp hq, List.nodup_cons.mpr ⟨np, nd⟩, .ow hp r h⟩
    | succ i =>
      obtain ⟨O', s, n, q⟩ := ih np nd i (by simpa using hi)
      exact ⟨O', s, n, .va h1 q⟩
  | @ow p' _ _ _ _ O₁ h1 h2 h ih =>
    intro i hi
    obtain ⟨n1, n2⟩ := List.nodup_cons.mp nd
    cases i with
    | zero => exact ⟨p :: O₁, fun q hq => (List.mem_cons.mp hq).imp id (List.mem_cons_of_mem _), List.nodup_cons.mpr ⟨fun q => np (List.mem_cons_of_mem _ q), n2⟩, .ow hp r h⟩
    | succ i =>
      obtain ⟨O', s, n, q⟩ := ih (fun q => np (List.mem_cons_of_mem _ q)) n2 i (by simpa using hi)
      refine ⟨p' :: O', fun q hq => ?_, List.nodup_cons.mpr ⟨fun q => ?_, n⟩, .ow h1 h2 q⟩
      · rcases List.mem_cons.mp hq with rfl | hq
        · exact .inr (List.mem_cons_self ..)
        · exact (s q hq).imp id (List.mem_cons_of_mem _)
      · rcases s _ q with e | e
        · exact np (by rw [← e]; exact List.mem_cons_self ..)
        · exact n1 e
/-- the list of a slot -/
theorem SS.own (h : SS z G H σ ρ O) : ∀ {i : Nat} {ds : List D}, ρ[i]? = some (.ow ds) → ∃ p vs, σ[i]? = some (some (.ref p)) ∧ p ∈ O ∧ H p = some (.lst vs) ∧ RA z G vs ds := by
  induction h with
  | nil => intro i ds e; simp at e
  | un _ ih =>
    intro i ds e
    cases i with
    | zero => simp at e
    | succ i => simpa using ih (by simpa using e)
  | va _ _ ih =>
    intro i ds e
    cases i with
    | zero => simp at e
    | succ i => simpa using ih (by simpa using e)
  | ow h1 h2 _ ih =>
    intro i ds e
    cases i with
    | zero =>
      simp at e
      subst e
      exact ⟨_, _, rfl, List.mem_cons_self .., h1, h2⟩
    | succ i =>
      obtain ⟨p, vs, a, b, c, d⟩ := ih (i := i) (by simpa using e)
      exact ⟨p, vs, by simpa using a, List.mem_cons_of_mem _ b, c, d⟩
/-- .. changed in place -/
theorem SS.change (h : SS z G H σ ρ O) (nd : O.Nodup) : ∀ {i : Nat} {ds ds' : List D} {p : Addr} {us : List V}, ρ[i]? = some (.ow ds) → σ[i]? = some (some (.ref p)) → RA z G us ds' →
    SS z G (upd H p (.lst us)) σ (ρ.set i (.ow ds')) O := by
  induction h with
  | nil => intro i ds ds' p us e; simp at e
  | un _ ih =>
    intro i ds ds' p us e e2 r
    cases i with
    | zero => simp at e
    | succ i => exact .un (ih nd (by simpa using e) (by simpa using e2) r)
  | va h1 _ ih =>
    intro i ds ds' p us e e2 r
    cases i with
    | zero => simp at e
    | succ i => exact .va h1 (ih nd (by simpa using e) (by simpa using e2) r)
  | ow h1 h2 h ih =>
    intro i ds ds' p us e e2 r
    obtain ⟨n1, n2⟩ := List.nodup_cons.mp nd
    cases i with
    | zero =>
      simp at e2
      subst e2
      refine .ow upd_same r (h.mono (fun _ _ q => q) fun q hq o ho => ?_)
      rw [upd_ne (fun z => n1 (by rw [← z]; exact hq))]
      exact ho
    | succ i =>
      have e' : _ := (List.getElem?_cons_succ ▸ e : _)
      obtain ⟨q, _, a, b, _, _⟩ := h.own (i := i) (ds := ds) (by simpa using e)
      have hqp : q = p := by
        have e2' := e2
        rw [List.getElem?_cons_succ, a] at e2'
        have := Option.some.inj (Option.some.inj e2')
        cases this
        rfl
      refine .ow ?_ h2 (ih n2 (by simpa using e) (by simpa using e2) r)
      rw [upd_ne (fun z => n1 (by rw [z, ← hqp]; exact b))]
      exact h1
/-- a slot's list is no more its own -/
theorem SS.free (h : SS z G H σ ρ O) (nd : O.Nodup) (e : Ex G G') : ∀ {i : Nat} {ds : List D}, ρ[i]? = some (.ow ds) → (∀ p, σ[i]? = some (some (.ref p)) → ∀ o, H p = some o → G' p = some o) →
    ∃ O', O'.Sublist O ∧ (∀ p, σ[i]? = some (some (.ref p)) → p ∉ O') ∧ SS z G' H σ (ρ.set i (.va (.lst ds))) O' := by
  induction h with
  | nil => intro i ds e; simp at e
  | un _ ih =>
    intro i ds e' k
    cases i with
    | zero => simp at e'
    | succ i =>
      obtain ⟨O', s, n, q⟩ := ih nd (i := i) (ds := ds) (by simpa using e') (by simpa using k)
      exact ⟨O', s, by simpa using n, .un q⟩
  | va h1 _ ih =>
    intro i ds e' k
    cases i with
    | zero => simp at e'
    | succ i =>
      obtain ⟨O', s, n, q⟩ := ih nd (i := i) (ds := ds) (by simpa using e') (by simpa using k)
      exact ⟨O', s, by simpa using n, .va (R.mono e _ _ h1) q⟩
  | @ow p _ _ _ _ O₁ h1 h2 h ih =>
    intro i ds e' k
    obtain ⟨n1, n2⟩ := List.nodup_cons.mp nd
    cases i with
    | zero =>
      simp at e'
      subst e'
      refine ⟨O₁, List.sublist_cons_self _ _, fun q hq => ?_, .va (.lst (k p (by simp) _ h1) (RA.mono e _ _ h2)) (h.mono e fun _ _ _ q => q)⟩
      simp at hq
      subst hq
      exact n1
    | succ i =>
      obtain ⟨O', s, n, q⟩ := ih n2 (i := i) (ds := ds) (by simpa using e') (by simpa using k)
      obtain ⟨q', _, a, b, _, _⟩ := h.own (i := i) (ds := ds) (by simpa using e')
      refine ⟨p :: O', s.cons₂ _, fun x hx hm => ?_, .ow h1 (RA.mono e _ _ h2) q⟩
      have hx' := hx
      rw [List.getElem?_cons_succ] at hx'
      rcases List.mem_cons.mp hm with rfl | hm
      · have e3 : q' = x := by
          rw [a] at hx'
          have := Option.some.inj (Option.some.inj hx')
          cases this
          rfl
        exact n1 (by rw [← e3]; exact b)
      · exact n x hx' hm
end

/-- a state of a def's frame -/
structure St1 (z : Option Addr) (hs : Addr → Prop) (H : Hp) (σ : L2.St) (ρ : List Sl) (O : List Addr) : Prop where
  ok : Ok z hs H
  nd : O.Nodup
  off : ∀ p ∈ O, z ≠ some p ∧ ¬ hs p
  ss : SS z (hid z (hsO hs O) H) H σ ρ O
/-- from one heap to a later one: all but the pot and the owned stays; what is owned newly is new -/
structure Nxt (z : Option Addr) (O O' : List Addr) (H H' : Hp) : Prop where
  keep : ∀ a o, z ≠ some a → a ∉ O → H a = some o → H' a = some o
  new : ∀ p ∈ O', p ∈ O ∨ (z ≠ some p ∧ H p = none)
section
variable {z : Option Addr} {hs : Addr → Prop} {H H1 H' : Hp} {σ : L2.St} {ρ : List Sl} {O O1 O2 : List Addr}
theorem Nxt.refl : Nxt z O O H H := ⟨fun _ _ _ _ h => h, fun _ h => .inl h⟩
theorem Nxt.trans (a : Nxt z O O1 H H1) (b : Nxt z O1 O2 H1 H') : Nxt z O O2 H H' where
  keep := fun c o n hc h => b.keep c o n (fun q => by
    rcases a.new c q with q | ⟨_, q⟩
    · exact hc q
    · rw [h] at q; cases q) (a.keep c o n hc h)
  new := fun p hp => by
    rcases b.new p hp with q | ⟨n, q⟩
    · exact a.new p q
    · by_cases hO : p ∈ O
      · exact .inl hO
      · refine .inr ⟨n, ?_⟩
        cases e : H p with
        | none => rfl
        | some o => rw [a.keep p o n hO e] at q; cases q
theorem nxt_hid (e : Nxt z O O1 H H') : Ex (hid z (hsO hs O) H) (hid z (hsO hs O1) H') := fun a o h => by
  obtain ⟨n, m, h⟩ := hid_some h
  have hO : a ∉ O := fun q => m (.inr q)
  rw [hid_ne n (by
    rintro (q | q)
    · exact m (.inl q)
    · rcases e.new a q with q | ⟨_, q⟩
      · exact hO q
      · rw [h] at q; cases q)]
  exact e.keep a o n hO h
theorem Nxt.of (e : ExZ z H H') : Nxt z O O H H' := ⟨fun a o n _ h => e a o n h, fun _ h => .inl h⟩
theorem Nxt.less (e : ExZ z H H') (s : ∀ p ∈ O1, p ∈ O) : Nxt z O O1 H H' := ⟨fun a o n _ h => e a o n h, fun p h => .inl (s p h)⟩
theorem St1.okO (s : St1 z hs H σ ρ O) : Ok z (hsO hs O) H := ⟨s.ok.pot, fun a h => by
  rcases h with h | h
  · exact s.ok.tr a h
  · obtain ⟨vs, q⟩ := s.ss.there a h
    exact ⟨(s.off a h).1, _, q⟩⟩
/-- all but the pot stays: the state stays -/
theorem St1.next (s : St1 z hs H σ ρ O) (e : ExZ z H H') (p : Ok z hs H') : St1 z hs H' σ ρ O :=
  ⟨p, s.nd, s.off, s.ss.mono (exz_hid e) fun q hq o ho => e q o (s.off q hq).1 ho⟩
theorem okO_ok {H2 : Hp} (p : Ok z (hsO hs O) H2) : Ok z hs H2 := ⟨p.pot, fun a h => p.tr a (.inl h)⟩
theorem St1.setVa (s : St1 z hs H σ ρ O) {v : V} {d : D} (r : R z (hid z (hsO hs O) H) v d) (i : Nat) : ∃ O', (∀ p ∈ O', p ∈ O) ∧ St1 z hs H (σ.set i (some v)) (ρ.set i (.va d)) O' := by
  obtain ⟨O', sl, q⟩ := s.ss.setVa r i
  have sub : ∀ p ∈ O', p ∈ O := fun p hp => sl.subset hp
  exact ⟨O', sub, s.ok, s.nd.sublist sl, fun p hp => s.off p (sub p hp), q.mono (hid_less fun a h => h.imp id (sub a)) fun _ _ _ h => h⟩
theorem St1.setUn (s : St1 z hs H σ ρ O) (x : Option V) (i : Nat) : ∃ O', (∀ p ∈ O', p ∈ O) ∧ St1 z hs H (σ.set i x) (ρ.set i .un) O' := by
  obtain ⟨O', sl, q⟩ := s.ss.setUn x i
  have sub : ∀ p ∈ O', p ∈ O := fun p hp => sl.subset hp
  exact ⟨O', sub, s.ok, s.nd.sublist sl, fun p hp => s.off p (sub p hp), q.mono (hid_less fun a h => h.imp id (sub a)) fun _ _ _ h => h⟩
/-- a list at p that stands for ds, p new, becomes a slot's own -/
theorem St1.setOw (s : St1 z hs H σ ρ O) {p : Addr} {vs : List V} {ds : List D} (n1 : z ≠ some p) (n2 : ¬ hs p) (n3 : p ∉ O) (hp : H p = some (.lst vs)) (r : RA z (hid z (hsO hs (p :: O)) H) vs ds) (wt : SS z (hid z (hsO hs (p :: O)) H) H σ ρ O) (i : Nat) (hi : i < ρ.length) :
    ∃ O', (∀ q ∈ O', q = p ∨ q ∈ O) ∧ St1 z hs H (σ.set i (some (.ref p))) (ρ.set i (.ow ds)) O' := by
  obtain ⟨O', sub, nd, q⟩ := wt.setOw hp r n3 s.nd i hi
  refine ⟨O', sub, s.ok, nd, fun q hq => ?_, q.mono (hid_less fun a h => ?_) fun _ _ _ h => h⟩
  · rcases sub q hq with rfl | h
    · exact ⟨n1, n2⟩
    · exact s.off q h
  · rcases h with h | h
    · exact .inl h
    · rcases sub a h with rfl | h
      · exact .inr (List.mem_cons_self ..)
      · exact .inr (List.mem_cons_of_mem _ h)
theorem hid_upd {p : Addr} {o : HO} (h : z = some p ∨ hs p) : hid z hs (upd H p o) = hid z hs H := by
  funext b
  unfold hid
  split
  · rfl
  · rename_i q
    rw [upd_ne (by rintro rfl; exact q h)]
/-- an own list is changed in place -/
theorem St1.change (s : St1 z hs H σ ρ O) {i : Nat} {ds ds' : List D} {p : Addr} {us : List V} (e : ρ[i]? = some (.ow ds)) (e2 : σ[i]? = some (some (.ref p))) (hp : p ∈ O) (r : RA z (hid z (hsO hs O) H) us ds') :
    Nxt z O O H (upd H p (.lst us)) ∧ St1 z hs (upd H p (.lst us)) σ (ρ.set i (.ow ds')) O := by
  have o1 := s.off p hp
  have q := s.ss.change s.nd e e2 r
  refine ⟨⟨fun a o _ ha h => by rw [upd_ne (by rintro rfl; exact ha hp)]; exact h, fun _ h => .inl h⟩, ⟨fun a ha => ?_, fun a ha => ?_⟩, s.nd, s.off, ?_⟩
  · obtain ⟨j, k, h, rest⟩ := s.ok.pot a ha
    refine ⟨j, k, ?_, rest⟩
    rw [upd_ne (by rintro rfl; exact o1.1 ha)]
    exact h
  · obtain ⟨n, o, h⟩ := s.ok.tr a ha
    refine ⟨n, o, ?_⟩
    rw [upd_ne (by rintro rfl; exact o1.2 ha)]
    exact h
  · rw [hid_upd (hs := hsO hs O) (.inr (.inr hp))]
    exact q
theorem St1.free (s : St1 z hs H σ ρ O) {i : Nat} {ds : List D} (e : ρ[i]? = some (.ow ds)) : ∃ O', (∀ p ∈ O', p ∈ O) ∧ St1 z hs H σ (ρ.set i (.va (.lst ds))) O' := by
  obtain ⟨p, vs, a, b, c, d⟩ := s.ss.own e
  have o1 := s.off p b
  have key : ∀ O', O'.Sublist O → p ∉ O' → Ex (hid z (hsO hs O) H) (hid z (hsO hs O') H) := fun O' sl _ => hid_less fun a h => h.imp id fun q => sl.subset q
  obtain ⟨O', sl, n, q⟩ := s.ss.free (G' := fun b => if b = p then H b else hid z (hsO hs O) H b) s.nd (fun b o h => by
    show (if b = p then H b else hid z (hsO hs O) H b) = some o
    by_cases hb : b = p
    · rw [if_pos hb]; exact hid_sub b o h
    · rw [if_neg hb]; exact h) e (fun p' hp' o ho => by
      rw [a] at hp'
      have := Option.some.inj (Option.some.inj hp')
      cases this
      show (if p = p then H p else hid z (hsO hs O) H p) = some o
      rw [if_pos rfl]
      exact ho)
  have sub : ∀ p ∈ O', p ∈ O := fun p hp => sl.subset hp
  refine ⟨O', sub, s.ok, s.nd.sublist sl, fun p hp => s.off p (sub p hp), q.mono (fun b o h => ?_) fun _ _ _ h => h⟩
  have h : (if b = p then H b else hid z (hsO hs O) H b) = some o := h
  by_cases hb : b = p
  · rw [if_pos hb] at h
    rw [hb] at h ⊢
    rw [hid_ne o1.1 (by rintro (q | q); exact o1.2 q; exact n p a q)]
    exact h
  · rw [if_neg hb] at h
    exact key O' sl (n p a) b o h
end

/-! ### statements -/
/-- a statement: what holds behind it, of a return, of a break, of a continue -/
structure Out where
  nx : List Sl → Prop
  rt : D → Prop
  bk : List Sl → Prop := fun _ => False
  ct : List Sl → Prop := fun _ => False
section
variable (z : Option Addr)
def Go (hs : Addr → Prop) (H : Hp) (O : List Addr) (P : List Sl → Prop) (Q : L2.St → Hp → Prop) : Prop := ∀ σ' H' ρ' O', Nxt z O O' H H' → St1 z hs H' σ' ρ' O' → P ρ' → Q σ' H'
structure Went (hs : Addr → Prop) (H : Hp) (O : List Addr) (out : Out) (F : Ends) : Prop where
  nx : Go z hs H O out.nx F.nx
  rt : ∀ v H' d, (∀ a o, z ≠ some a → a ∉ O → H a = some o → H' a = some o) → Ok z hs H' → R z (hid z hs H') v d → out.rt d → F.rt v H'
  bk : Go z hs H O out.bk F.bk
  ct : Go z hs H O out.ct F.ct
def X1 (ts : TS) (ρ : List Sl) (out : Out) : Prop := ∀ hs σ H O, St1 z hs H σ ρ O → ∀ F : Ends, Went z hs H O out F → ts F σ H
/-- a target gets data -/
def G1 (g : TG) (ρ : List Sl) (d : D) (N : List Sl → Prop) : Prop := ∀ hs σ H O, St1 z hs H σ ρ O → ∀ v, R z (hid z (hsO hs O) H) v d → ∀ Q, Go z hs H O N Q → g v σ H Q
def Gs1 (g : TGs) (ρ : List Sl) (ds : List D) (N : List Sl → Prop) : Prop := ∀ hs σ H O, St1 z hs H σ ρ O → ∀ vs, RA z (hid z (hsO hs O) H) vs ds → ∀ Q, Go z hs H O N Q → g vs σ H Q
end
section
variable {z : Option Addr} {hs : Addr → Prop} {H H1 : Hp} {O O1 : List Addr} {ρ : List Sl} {out : Out} {te ta tb : TE} {tr : TA} {tt : TT} {P : List Sl → Prop}
theorem Go.back {Q : L2.St → Hp → Prop} (w : Go z hs H O P Q) (e : Nxt z O O1 H H1) : Go z hs H1 O1 P Q := fun σ' H' ρ' O' e' => w σ' H' ρ' O' (e.trans e')
theorem Go.imp {P' : List Sl → Prop} {Q : L2.St → Hp → Prop} (w : Go z hs H O P Q) (i : ∀ ρ, P' ρ → P ρ) : Go z hs H O P' Q := fun σ' H' ρ' O' e s q => w σ' H' ρ' O' e s (i _ q)
theorem Went.back {F : Ends} (w : Went z hs H O out F) (e : Nxt z O O1 H H1) : Went z hs H1 O1 out F :=
  ⟨w.nx.back e, fun v H' d k => w.rt v H' d fun a o n ha h => k a o n (fun q => by
    rcases e.new a q with q | ⟨_, q⟩
    · exact ha q
    · rw [h] at q; cases q) (e.keep a o n ha h), w.bk.back e, w.ct.back e⟩

/-- an expression, what is owned not seen -/
theorem St1.ev {σ : L2.St} (s : St1 z hs H σ ρ O) {Pd : D → Prop} (h : E1 z te (ρ.map Sl.dat) Pd) {Q : VK} (k : ∀ v H' d, ExZ z H H' → St1 z hs H' σ ρ O → R z (hid z (hsO hs O) H') v d → Pd d → Q v H') : te σ H Q :=
  h (hsO hs O) σ H s.okO s.ss.dat Q fun v H' d e p r q => k v H' d e (s.next e (okO_ok p)) r q
theorem St1.evA {σ : L2.St} (s : St1 z hs H σ ρ O) {Pd : List D → Prop} (h : EA z tr (ρ.map Sl.dat) Pd) {Q : List V → Hp → Prop} (k : ∀ v H' d, ExZ z H H' → St1 z hs H' σ ρ O → RA z (hid z (hsO hs O) H') v d → Pd d → Q v H') : tr σ H Q :=
  h (hsO hs O) σ H s.okO s.ss.dat Q fun v H' d e p r q => k v H' d e (s.next e (okO_ok p)) r q
/-- .. seen -/
theorem St1.sr {σ : L2.St} (s : St1 z hs H σ ρ O) : SR z (hid z hs H) σ (ρ.map Sl.see) := s.ss.see (hid_less fun a h => .inl h) fun p hp o ho => by
  rw [hid_ne (s.off p hp).1 (s.off p hp).2]
  exact ho
theorem St1.see {σ : L2.St} (s : St1 z hs H σ ρ O) {Pd : D → Prop} (h : E1 z te (ρ.map Sl.see) Pd) {Q : VK} (k : ∀ v H' d, ExZ z H H' → St1 z hs H' σ ρ O → R z (hid z hs H') v d → Pd d → Q v H') : te σ H Q :=
  h hs σ H s.ok s.sr Q fun v H' d e p r q => k v H' d e (s.next e p) r q
theorem St1.seeT {σ : L2.St} (s : St1 z hs H σ ρ O) {Pd : Bool → Prop} (h : ET z tt (ρ.map Sl.see) Pd) {Q : Bool → Hp → Prop} (k : ∀ b H', ExZ z H H' → St1 z hs H' σ ρ O → Pd b → Q b H') : tt σ H Q :=
  h hs σ H s.ok s.sr Q fun b H' e p q => k b H' e (s.next e p) q
/-- data that lies in no heap -/
def flat : D → Bool
  | .non | .bl _ | .int _ | .str _ | .ty _ | .raw _ => true
  | _ => false
theorem flat_any {G G' : Hp} {v : V} {d : D} (f : flat d = true) (r : R z G v d) : R z G' v d := by
  cases d <;> first | (cases f; done) | skip
  all_goals (cases r; first | exact .non | exact .bl _ | exact .int _ | exact .str _ | exact .ty _ | exact .raw _)

theorem x_seq {t u : TS} (h : X1 z t ρ { out with nx := fun ρ' => X1 z u ρ' out }) : X1 z (tSeq t u) ρ out := fun hs σ H O s F w =>
  h hs σ H O s _ ⟨fun σ' H' ρ' O' e' s' q => q hs σ' H' O' s' F (w.back e'), w.rt, w.bk, w.ct⟩
theorem x_next (h : out.nx ρ) : X1 z tNext ρ out := fun hs σ H O s F w => w.nx σ H ρ O Nxt.refl s h
theorem x_imp {ts : TS} {out' : Out} (h : X1 z ts ρ out') (i1 : ∀ ρ, out'.nx ρ → out.nx ρ) (i2 : ∀ d, out'.rt d → out.rt d) (i3 : ∀ ρ, out'.bk ρ → out.bk ρ) (i4 : ∀ ρ, out'.ct ρ → out.ct ρ) : X1 z ts ρ out := fun hs σ H O s F w =>
  h hs σ H O s F ⟨w.nx.imp i1, fun v H' d k p r q => w.rt v H' d k p r (i2 d q), w.bk.imp i3, w.ct.imp i4⟩
theorem g_name {i : Nat} {d : D} {N : List Sl → Prop} (h : N (ρ.set i (.va d))) : G1 z (gName i) ρ d N := fun hs σ H O s v r Q w => by
  obtain ⟨O', sub, s'⟩ := s.setVa r i
  exact w _ _ _ O' (.less (ExZ.refl z H) sub) s' h
theorem gs_nil {N : List Sl → Prop} (h : N ρ) : Gs1 z gNil ρ [] N := fun hs σ H O s vs r Q w => by
  cases r
  exact ⟨rfl, w _ _ _ O Nxt.refl s h⟩
theorem gs_cons {g : TG} {gs : TGs} {d : D} {ds : List D} {N : List Sl → Prop} (h : G1 z g ρ d fun ρ' => Gs1 z gs ρ' ds N) : Gs1 z (gCons g gs) ρ (d :: ds) N := fun hs σ H O s vs r Q w => by
  cases r with
  | @cons v vs _ _ r1 r2 =>
    exact ⟨v, vs, rfl, h hs σ H O s v r1 _ fun σ' H' ρ' O' e s' q => q hs σ' H' O' s' vs (RA.mono (nxt_hid e) _ _ r2) Q (w.back e)⟩
theorem g_tup {K : PySem.W.Frag} {n : Nat} {gs : TGs} {d : D} {N : List Sl → Prop} (h : ∃ ds, d = .tup ds ∧ ds.length = n ∧ Gs1 z gs ρ ds N) : G1 z (gTup K n gs) ρ d N := fun hs σ H O s v r Q w => by
  obtain ⟨ds, rfl, hl, h⟩ := h
  cases r with
  | @tup a xs _ h1 h2 => exact ⟨a, xs, rfl, .inl (.inl (hid_sub a _ h1)), by rw [h2.length, hl], h hs σ H O s xs h2 Q w⟩
theorem x_asg {g : TG} (h : E1 z te (ρ.map Sl.dat) fun d => G1 z g ρ d out.nx) : X1 z (tAsg te g) ρ out := fun hs σ H O s F w =>
  s.ev h fun v H1 d e1 s1 r q => q hs σ H1 O s1 v r _ (w.nx.back (.of e1))
/-- an own list may be read where the value is flat -/
theorem x_asgF {i : Nat} (h : E1 z te (ρ.map Sl.see) fun d => flat d = true ∧ out.nx (ρ.set i (.va d))) : X1 z (tAsg te (gName i)) ρ out := fun hs σ H O s F w =>
  s.see h fun v H1 d e1 s1 r q => g_name q.2 hs σ H1 O s1 v (flat_any q.1 r) _ (w.nx.back (.of e1))
theorem x_drop (h : E1 z te (ρ.map Sl.see) fun _ => out.nx ρ) : X1 z (tDrop te) ρ out := fun hs σ H O s F w =>
  s.see h fun v H1 d e1 s1 r q => w.nx _ H1 _ O (.of e1) s1 q
theorem x_ret (h : E1 z te (ρ.map Sl.see) out.rt) : X1 z (tRet te) ρ out := fun hs σ H O s F w =>
  s.see h fun v H1 d e1 s1 r q => w.rt v H1 d (fun a o n _ k => e1 a o n k) s1.ok r q
theorem x_retN (h : out.rt .non) : X1 z tRetN ρ out := fun hs σ H O s F w => w.rt _ H _ (fun _ _ _ _ k => k) s.ok .non h
theorem x_if {t u : TS} (h : ET z tt (ρ.map Sl.see) fun b => if b = true then X1 z t ρ out else X1 z u ρ out) : X1 z (tIfS tt t u) ρ out := fun hs σ H O s F w =>
  s.seeT h fun b H1 e1 s1 h1 => by
    cases b with
    | true =>
      rw [if_pos rfl] at h1 ⊢
      exact h1 hs σ H1 O s1 F (w.back (.of e1))
    | false =>
      rw [if_neg (by decide)] at h1 ⊢
      exact h1 hs σ H1 O s1 F (w.back (.of e1))
theorem x_brk (h : out.bk ρ) : X1 z tBreak ρ out := fun hs σ H O s F w => w.bk σ H ρ O Nxt.refl s h
theorem x_cont (h : out.ct ρ) : X1 z tCont ρ out := fun hs σ H O s F w => w.ct σ H ρ O Nxt.refl s h
theorem x_par {i j : Nat} (h : EA z tr (ρ.map Sl.dat) fun ds => ∃ d e, ds = [d, e] ∧ out.nx ((ρ.set i (.va d)).set j (.va e))) : X1 z (tPar i j tr) ρ out := fun hs σ H O s F w =>
  s.evA h fun vs H1 ds e1 s1 rs ⟨d, e, eds, q⟩ => by
    subst eds
    cases rs with
    | cons r1 rs =>
      cases rs with
      | cons r2 rs =>
        cases rs
        refine ⟨_, _, rfl, ?_⟩
        obtain ⟨O1, sub, s2⟩ := s1.setVa r1 i
        have n1 : Nxt z O O1 H1 H1 := .less (ExZ.refl z H1) sub
        obtain ⟨O2, sub2, s3⟩ := s2.setVa (R.mono (nxt_hid n1) _ _ r2) j
        exact w.nx _ H1 _ O2 ((Nxt.of e1).trans (n1.trans (.less (ExZ.refl z H1) sub2))) s3 q
/-- an own list is shared from here on -/
theorem x_free {ts : TS} {i : Nat} {ds : List D} (e : ρ[i]? = some (.ow ds)) (h : X1 z ts (ρ.set i (.va (.lst ds))) out) : X1 z ts ρ out := fun hs σ H O s F w => by
  obtain ⟨O', sub, s'⟩ := s.free e
  exact h hs σ H O' s' F (w.back (.less (ExZ.refl z H) sub))
/-- what a slot holds is forgotten -/
theorem SS.drop {G H : Hp} {σ : L2.St} {ρ : List Sl} {O : List Addr} (h : SS z G H σ ρ O) : ∀ i, ∃ O', O'.Sublist O ∧ SS z G H σ (ρ.set i .un) O' := by
  induction h with
  | nil => intro i; exact ⟨[], .slnil, by simp; exact .nil⟩
  | un h ih =>
    intro i
    cases i with
    | zero => exact ⟨_, List.Sublist.refl _, .un h⟩
    | succ i =>
      obtain ⟨O', s, q⟩ := ih i
      exact ⟨O', s, .un q⟩
  | va h1 h ih =>
    intro i
    cases i with
    | zero => exact ⟨_, List.Sublist.refl _, .un h⟩
    | succ i =>
      obtain ⟨O', s, q⟩ := ih i
      exact ⟨O', s, .va h1 q⟩
  | ow h1 h2 h ih =>
    intro i
    cases i with
    | zero => exact ⟨_, List.sublist_cons_self _ _, .un h⟩
    | succ i =>
      obtain ⟨O', s, q⟩ := ih i
      exact ⟨_ :: O', s.cons₂ _, .ow h1 h2 q⟩
theorem x_forget {ts : TS} (i : Nat) (h : X1 z ts (ρ.set i .un) out) : X1 z ts ρ out := fun hs σ H O s F w => by
  obtain ⟨O', sl, q⟩ := s.ss.drop i
  have sub : ∀ p ∈ O', p ∈ O := fun p hp => sl.subset hp
  exact h hs σ H O' ⟨s.ok, s.nd.sublist sl, fun p hp => s.off p (sub p hp), q.mono (hid_less fun a h => h.imp id (sub a)) fun _ _ _ h => h⟩ F (w.back (.less (ExZ.refl z H) sub))
/-- i = [..]: a list of the slot's own -/
theorem x_own {i : Nat} (hi : i < ρ.length) (h : EA z tr (ρ.map Sl.dat) fun ds => ds.length ≤ sizeLine ∧ out.nx (ρ.set i (.ow ds))) : X1 z (tAsg (tLst tr) (gName i)) ρ out := fun hs σ H O s F w =>
  s.evA h fun vs H1 ds e1 s1 rs ⟨hl, q⟩ => ⟨by rw [rs.length]; exact hl, fun p n => by
    obtain ⟨n1, n2⟩ := s1.okO.off n
    have n3 : p ∉ O := fun q => n2 (.inr q)
    have e2 : ExZ z H1 (upd H1 p (.lst vs)) := ExZ.new n
    have s2 : St1 z hs (upd H1 p (.lst vs)) σ ρ O := s1.next e2 (s1.ok.new n)
    have key : Ex (hid z (hsO hs O) H1) (hid z (hsO hs (p :: O)) (upd H1 p (.lst vs))) := fun a o h => by
      obtain ⟨m1, m2, h⟩ := hid_some h
      have na : a ≠ p := ne_of_none h n
      rw [hid_ne m1 (by
        rintro (q | q)
        · exact m2 (.inl q)
        · rcases List.mem_cons.mp q with q | q
          · exact na q
          · exact m2 (.inr q)), upd_ne na]
      exact h
    obtain ⟨O', sub, s3⟩ := s2.setOw (p := p) n1 (fun q => n2 (.inl q)) n3 upd_same (RA.mono key _ _ rs) (s1.ss.mono key fun a ha o ho => by
      rw [upd_ne (by rintro rfl; exact n3 ha)]
      exact ho) i hi
    refine w.nx _ _ _ O' ((Nxt.of e1).trans ⟨fun a o m _ h => e2 a o m h, fun a ha => ?_⟩) s3 q
    rcases sub a ha with rfl | h
    · exact .inr ⟨n1, n⟩
    · exact .inl h⟩
/-- own.append(e) -/
theorem x_append {K : PySem.W.Frag} {i : Nat} {ds : List D} (he : ρ[i]? = some (.ow ds)) (hz : ds.length < sizeLine) (h : E1 z te (ρ.map Sl.dat) fun d => out.nx (ρ.set i (.ow (ds ++ [d])))) : X1 z (tDrop (tBM K "list" rAppend (tVar i) (tCons te tNil))) ρ out := fun hs σ H O s F w => by
  obtain ⟨p, vs, a, b, c, d⟩ := s.ss.own he
  refine ⟨.ref p, a, .inl ⟨rfl, vs, .inl (.inl c)⟩, ?_⟩
  refine s.ev h fun v H1 dd e1 s1 r q => ?_
  obtain ⟨p', vs', a', b', c', d'⟩ := s1.ss.own he
  have : p' = p := by
    rw [a] at a'
    have := Option.some.inj (Option.some.inj a')
    cases this
    rfl
  subst this
  refine ⟨p', vs', v, rfl, rfl, c', by rw [d'.length]; exact hz, ?_⟩
  obtain ⟨n, s2⟩ := s1.change he a b (d'.append (.cons r .nil))
  exact w.nx _ _ _ O ((Nxt.of e1).trans n) s2 q
theorem x_appendF {K : PySem.W.Frag} {i : Nat} {ds : List D} (he : ρ[i]? = some (.ow ds)) (hz : ds.length < sizeLine) (h : E1 z te (ρ.map Sl.see) fun d => flat d = true ∧ out.nx (ρ.set i (.ow (ds ++ [d])))) : X1 z (tDrop (tBM K "list" rAppend (tVar i) (tCons te tNil))) ρ out := fun hs σ H O s F w => by
  obtain ⟨p, vs, a, b, c, d⟩ := s.ss.own he
  refine ⟨.ref p, a, .inl ⟨rfl, vs, .inl (.inl c)⟩, ?_⟩
  refine s.see h fun v H1 dd e1 s1 r q => ?_
  obtain ⟨p', vs', a', b', c', d'⟩ := s1.ss.own he
  have : p' = p := by
    rw [a] at a'
    have := Option.some.inj (Option.some.inj a')
    cases this
    rfl
  subst this
  refine ⟨p', vs', v, rfl, rfl, c', by rw [d'.length]; exact hz, ?_⟩
  obtain ⟨n, s2⟩ := s1.change he a b (d'.append (.cons (flat_any q.1 r) .nil))
  exact w.nx _ _ _ O ((Nxt.of e1).trans n) s2 q.2

/-! ### walks -/
/-- from H1 on J gives n things, the i-th one for f i -/
def Wk (z : Option Addr) (hs : Addr → Prop) (J : It) (H1 : Hp) (n : Nat) (f : Nat → D) : Prop :=
  ∀ hs' H, Ok z hs' H → (∀ a o, z ≠ some a → ¬ hs a → H1 a = some o → H a = some o ∧ ¬ hs' a) → ∀ i, (i < n → J.go i H ∧ ∀ x H', J.yld i H x H' → Ex H H' ∧ R z (hid z hs' H') x (f i)) ∧ (n ≤ i → J.stop i H)
def EI (z : Option Addr) (wi : TI) (ρ : List (Option D)) (PI : Nat → (Nat → D) → Prop) : Prop := ∀ hs σ H, Ok z hs H → SR z (hid z hs H) σ ρ → ∀ Rr : It → Hp → Prop, (∀ J H1 n f, ExZ z H H1 → Ok z hs H1 → Wk z hs J H1 n f → PI n f → Rr J H1) → wi σ H Rr
theorem R.off {z : Option Addr} {hs hs' : Addr → Prop} {H H' : Hp} (k : ∀ a o, z ≠ some a → ¬ hs a → H a = some o → H' a = some o ∧ ¬ hs' a) : Ex (hid z hs H) (hid z hs' H') := fun a o h => by
  obtain ⟨n, m, h⟩ := hid_some h
  obtain ⟨k1, k2⟩ := k a o n m h
  rw [hid_ne n k2]
  exact k1
theorem i_list {K : PySem.W.Frag} {tl : TE} {ρ : List (Option D)} {PI : Nat → (Nat → D) → Prop} (h : E1 z tl ρ fun d => ∃ ds, d = .lst ds ∧ PI ds.length fun i => ds.getD i .non) : EI z (iList K tl) ρ PI := fun hs σ H p s Rr w =>
  h hs σ H p s _ fun v H1 d e1 p1 r ⟨ds, ed, q⟩ => by
    subst ed
    cases r with
    | @lst a xs _ h1 h2 =>
      refine ⟨a, rfl, ⟨xs, .inl (.inl (hid_sub a _ h1))⟩, w _ H1 _ _ e1 p1 (fun hs' H' p' k i => ?_) q⟩
      obtain ⟨m1, m2, h1⟩ := hid_some h1
      have hq : SqL K H' a xs := .inl (.inl (k a _ m1 m2 h1).1)
      refine ⟨fun hi => ?_, fun hi => ⟨xs, hq, by rw [h2.length]; exact hi⟩⟩
      have hi' : i < xs.length := by rw [h2.length]; exact hi
      refine ⟨⟨xs, xs[i], hq, List.getElem?_eq_getElem hi'⟩, fun x H2 ⟨e, y⟩ => ?_⟩
      subst e
      refine ⟨fun _ _ q => q, ?_⟩
      obtain ⟨d, hd, r⟩ := h2.get (y xs hq)
      rw [List.getD_eq_getElem?_getD, hd]
      exact R.mono (R.off k) _ _ r
theorem i_tup {K : PySem.W.Frag} {tl : TE} {ρ : List (Option D)} {PI : Nat → (Nat → D) → Prop} (h : E1 z tl ρ fun d => ∃ ds, d = .tup ds ∧ PI ds.length fun i => ds.getD i .non) : EI z (iTup K tl) ρ PI := fun hs σ H p s Rr w =>
  h hs σ H p s _ fun v H1 d e1 p1 r ⟨ds, ed, q⟩ => by
    subst ed
    cases r with
    | @tup a xs _ h1 h2 =>
      refine ⟨a, rfl, ⟨xs, .inl (.inl (hid_sub a _ h1))⟩, w _ H1 _ _ e1 p1 (fun hs' H' p' k i => ?_) q⟩
      obtain ⟨m1, m2, h1⟩ := hid_some h1
      have hq : SqT K H' a xs := .inl (.inl (k a _ m1 m2 h1).1)
      refine ⟨fun hi => ?_, fun hi => ⟨xs, hq, by rw [h2.length]; exact hi⟩⟩
      have hi' : i < xs.length := by rw [h2.length]; exact hi
      refine ⟨⟨xs, xs[i], hq, List.getElem?_eq_getElem hi'⟩, fun x H2 ⟨e, y⟩ => ?_⟩
      subst e
      refine ⟨fun _ _ q => q, ?_⟩
      obtain ⟨d, hd, r⟩ := h2.get (y xs hq)
      rw [List.getD_eq_getElem?_getD, hd]
      exact R.mono (R.off k) _ _ r
theorem i_rng1 {ta : TA} {ρ : List (Option D)} {PI : Nat → (Nat → D) → Prop} (h : EA z ta ρ fun ds => ∃ j : Int, ds = [.int j] ∧ -(2 ^ 62) ≤ j ∧ j < 2 ^ 62 ∧ PI j.toNat fun i => .int (i : Nat)) : EI z (iRng1 ta) ρ PI := fun hs σ H p s Rr w =>
  h hs σ H p s _ fun vs H1 ds e1 p1 rs ⟨j, ed, l1, l2, q⟩ => by
    subst ed
    cases rs with
    | cons r1 rs =>
      cases rs
      cases r1
      refine ⟨j, rfl, l1, l2, w _ H1 _ _ e1 p1 (fun hs' H' p' k i => ⟨fun hi => ⟨hi, fun x H2 ⟨e, y⟩ => ?_⟩, fun hi => hi⟩) q⟩
      subst e
      subst y
      refine ⟨fun _ _ q => q, ?_⟩
      rw [Int.zero_add]
      exact .int _
theorem i_rng2 {ta : TA} {ρ : List (Option D)} {PI : Nat → (Nat → D) → Prop} (h : EA z ta ρ fun ds => ∃ i0 j : Int, ds = [.int i0, .int j] ∧ (-(2 ^ 62) ≤ i0 ∧ i0 < 2 ^ 62 ∧ -(2 ^ 62) ≤ j ∧ j < 2 ^ 62) ∧ PI (j - i0).toNat fun i => .int (i0 + (i : Nat))) : EI z (iRng2 ta) ρ PI := fun hs σ H p s Rr w =>
  h hs σ H p s _ fun vs H1 ds e1 p1 rs ⟨i0, j, ed, l1, q⟩ => by
    subst ed
    cases rs with
    | cons r1 rs =>
      cases rs with
      | cons r2 rs =>
        cases rs
        cases r1
        cases r2
        refine ⟨i0, j, rfl, l1, w _ H1 _ _ e1 p1 (fun hs' H' p' k i => ⟨fun hi => ⟨hi, fun x H2 ⟨e, y⟩ => ?_⟩, fun hi => hi⟩) q⟩
        subst e
        subst y
        exact ⟨fun _ _ q => q, .int _⟩
theorem i_enum {K : PySem.W.Frag} {ta : TA} {ρ : List (Option D)} {PI : Nat → (Nat → D) → Prop} (h : EA z ta ρ fun es => ∃ ds, es = [.lst ds] ∧ PI ds.length fun i => .tup [.int (i : Nat), ds.getD i .non]) : EI z (iEnum K ta) ρ PI := fun hs σ H p s Rr w =>
  h hs σ H p s _ fun vs H1 ds e1 p1 rs ⟨ds, ed, q⟩ => by
    subst ed
    cases rs with
    | cons r rs =>
      cases rs
      cases r with
      | @lst a xs _ h1 h2 =>
        refine ⟨a, xs, rfl, .inl (.inl (hid_sub a _ h1)), w _ H1 _ _ e1 p1 (fun hs' H' p' k i => ?_) q⟩
        obtain ⟨m1, m2, h1⟩ := hid_some h1
        have hq : SqL K H' a xs := .inl (.inl (k a _ m1 m2 h1).1)
        refine ⟨fun hi => ?_, fun hi => ⟨xs, hq, by rw [h2.length]; exact hi⟩⟩
        have hi' : i < xs.length := by rw [h2.length]; exact hi
        refine ⟨⟨xs, xs[i], hq, List.getElem?_eq_getElem hi'⟩, fun x H2 ⟨T, y, ex, n, e, g⟩ => ?_⟩
        subst e
        subst ex
        refine ⟨Ex.new n, ?_⟩
        obtain ⟨d, hd, r⟩ := h2.get (g xs hq)
        rw [List.getD_eq_getElem?_getD, hd]
        obtain ⟨n1, n2⟩ := p'.off n
        refine .tup (a := T) (by rw [hid_ne n1 n2, upd_same]) (.cons (.int _) (.cons (R.mono ?_ _ _ r) .nil))
        exact (R.off k).trans (exz_hid (ExZ.new n))
/-- for: a word of the turn and the slots -/
theorem x_for {wi : TI} {g : TG} {tb : TS} (h : EI z wi (ρ.map Sl.dat) fun n f => ∃ W : Nat → List Sl → Prop, W 0 ρ ∧ (∀ i ρi, i < n → W i ρi → G1 z g ρi (f i) fun ρ' => X1 z tb ρ' { nx := W (i + 1), ct := W (i + 1), bk := out.nx, rt := out.rt }) ∧ ∀ ρn, W n ρn → out.nx ρn) : X1 z (tFor wi g tb) ρ out := fun hs σ H O s F w =>
  h (hsO hs O) σ H s.okO s.ss.dat _ fun J H1 n f e1 p1 wk ⟨W, w0, w1, w2⟩ => by
    have s1 : St1 z hs H1 σ ρ O := s.next e1 (okO_ok p1)
    have w' := w.back (.of e1)
    refine ⟨fun i m σ' H' => m = n - i ∧ i ≤ n ∧ ∃ ρ' O', Nxt z O O' H1 H' ∧ St1 z hs H' σ' ρ' O' ∧ W i ρ', ⟨n, rfl, Nat.zero_le _, ρ, O, Nxt.refl, s1, w0⟩, ?_⟩
    rintro i m σ' H' ⟨rfl, hi, ρ', O', nx, s', hw⟩
    obtain ⟨q1, q2⟩ := wk (hsO hs O') H' s'.okO (fun a o n1 n2 h => ⟨nx.keep a o n1 (fun q => n2 (.inr q)) h, by
      rintro (q | q)
      · exact n2 (.inl q)
      · rcases nx.new a q with q | ⟨_, q⟩
        · exact n2 (.inr q)
        · rw [h] at q; cases q⟩) i
    by_cases hlt : i < n
    · obtain ⟨g1, g2⟩ := q1 hlt
      refine .inr ⟨g1, fun σ2 H2 => ∃ ρ2 O2, Nxt z O O2 H1 H2 ∧ St1 z hs H2 σ2 ρ2 O2 ∧ W (i + 1) ρ2, fun σ2 H2 q => ⟨n - (i + 1), by omega, rfl, hlt, q⟩, fun x H2 y => ?_⟩
      obtain ⟨ex, r⟩ := g2 x H2 y
      have e2 : ExZ z H' H2 := .of ex
      have s2 : St1 z hs H2 σ' ρ' O' := s'.next e2 (s'.ok.next e2 (s'.ok.pot.keep ex))
      refine w1 i ρ' hlt hw hs σ' H2 O' s2 x r _ fun σ3 H3 ρ3 O3 n3 s3 q3 => ?_
      have n13 : Nxt z O O3 H1 H3 := nx.trans ((Nxt.of e2).trans n3)
      refine q3 hs σ3 H3 O3 s3 _ ⟨fun σ4 H4 ρ4 O4 n4 s4 q4 => ⟨ρ4, O4, n13.trans n4, s4, q4⟩, (w'.back n13).rt, (w'.back n13).nx, fun σ4 H4 ρ4 O4 n4 s4 q4 => ⟨ρ4, O4, n13.trans n4, s4, q4⟩⟩
    · have : i = n := by omega
      subst this
      exact .inl ⟨q2 (Nat.le_refl _), w'.nx _ _ _ O' nx s' (w2 _ hw)⟩
end
end PD

set_option Elab.async false
set_option linter.all false
set_option maxRecDepth 100000
set_option maxHeartbeats 2000000
/-! PD3: comprehensions; operators, calls and methods by data; a def's promise. -/
namespace PD
open PySem PySem.Spec L2

/-! ### comprehensions -/
def GE (z : Option Addr) (vs : List Nat) (g : TG) (ρ : List (Option D)) (d : D) (N : List (Option D) → Prop) : Prop := ∀ hs σ H, Ok z hs H → SR z (hid z hs H) σ ρ → ∀ v, R z (hid z hs H) v d → ∀ Q : L2.St → Hp → Prop,
  (∀ σ' H' ρ', ExZ z H H' → Ok z hs H' → SR z (hid z hs H') σ' ρ' → wipe σ' vs = wipe σ vs → N ρ' → Q σ' H') → g v σ H Q
theorem wipe_get (σ : L2.St) : ∀ (vs : List Nat) (i : Nat), (wipe σ vs)[i]? = if i ∈ vs then (if i < σ.length then some none else none) else σ[i]?
  | [], i => by simp [wipe]
  | v :: vs, i => by
    show ((wipe σ vs).set v none)[i]? = _
    rw [List.getElem?_set, wipe_length, wipe_get σ vs i]
    by_cases h : v = i
    · subst h
      simp
    · have h' : ¬ i = v := fun e => h e.symm
      simp [h, h']
theorem wipe_set {σ : L2.St} {vs : List Nat} {j : Nat} {x : Option V} (h : j ∈ vs) : wipe (σ.set j x) vs = wipe σ vs := by
  apply List.ext_getElem?
  intro i
  rw [wipe_get, wipe_get]
  by_cases hi : i ∈ vs
  · simp [hi]
  · rw [if_neg hi, if_neg hi, List.getElem?_set]
    rw [if_neg (by rintro rfl; exact hi h)]
theorem wipe_idem {σ : L2.St} {vs : List Nat} : wipe (wipe σ vs) vs = wipe σ vs := by
  apply List.ext_getElem?
  intro i
  rw [wipe_get, wipe_length]
  by_cases hi : i ∈ vs
  · rw [if_pos hi, wipe_get, if_pos hi]
  · rw [if_neg hi]
theorem ge_name {z : Option Addr} {vs : List Nat} {ρ : List (Option D)} {d : D} {N : List (Option D) → Prop} {i : Nat} (hi : i ∈ vs) (h : N (ρ.set i (some d))) : GE z vs (gName i) ρ d N := fun hs σ H p s v r Q w =>
  w _ H _ (ExZ.refl z H) p (s.set r i) (wipe_set hi) h
section
variable {z : Option Addr} {hs : Addr → Prop} {ρ : List (Option D)} {P P' : D → Prop} {PL : List D → Prop} {PB : Bool → Prop} {te ta tb tc : TE} {tr : TA} {tt tu : TT} {H H1 : Hp} {Q : VK}
theorem t_yes (h : PB true) : ET z tYes ρ PB := fun hs σ H p s Q w => w true H (ExZ.refl z H) p h
theorem e_lc {wi : TI} {g : TG} {vs : List Nat} (h : EI z wi ρ fun n f => n ≤ 1000000 ∧ ∃ W : Nat → List D → Prop, W 0 [] ∧ (∀ i acc, i < n → acc.length ≤ i → W i acc → GE z vs g (wipeD ρ vs) (f i) fun ρ' => ET z tt ρ' fun b => if b = true then E1 z te ρ' fun d => W (i + 1) (acc ++ [d]) else W (i + 1) acc) ∧
    ∀ acc, acc.length ≤ n → W n acc → P (.lst acc)) : E1 z (tLc wi g tt te vs) ρ P := fun hs σ H p s Q w =>
  h hs σ H p s _ fun J H1 n f e1 p1 wk ⟨hn, W, w0, w1, w2⟩ => by
    intro Dl nD
    obtain ⟨o1, o2⟩ := p1.off nD
    let hs' : Addr → Prop := fun a => hs a ∨ a = Dl
    have s1 := s.mono (exz_hid (hs := hs) e1)
    refine ⟨fun i m H' => m = n - i ∧ i ≤ n ∧ ExZ z H1 H' ∧ Ok z hs' H' ∧ ∃ av ad, H' Dl = some (.lst av) ∧ RA z (hid z hs' H') av ad ∧ ad.length ≤ i ∧ W i ad,
      ⟨n, rfl, Nat.zero_le _, ExZ.new nD, ⟨(p1.new nD).pot, fun a ha => ?_⟩, [], [], upd_same, .nil, Nat.le_refl _, w0⟩, ?_⟩
    · rcases ha with ha | ha
      · exact (p1.new nD).tr a ha
      · subst ha
        exact ⟨o1, _, upd_same⟩
    rintro i m H' ⟨rfl, hi, ex, p', av, ad, hD, ra, hl, hw⟩
    obtain ⟨q1, q2⟩ := wk hs' H' p' (fun a o n1 n2 ha => ⟨ex a o n1 ha, by
      rintro (q | q)
      · exact n2 q
      · rw [q, nD] at ha; cases ha⟩) i
    by_cases hlt : i < n
    · obtain ⟨g1, g2⟩ := q1 hlt
      refine .inr ⟨g1, fun H2 => ExZ z H1 H2 ∧ Ok z hs' H2 ∧ ∃ av ad, H2 Dl = some (.lst av) ∧ RA z (hid z hs' H2) av ad ∧ ad.length ≤ i + 1 ∧ W (i + 1) ad, fun H2 q => ⟨n - (i + 1), by omega, rfl, hlt, q⟩, fun x H2 y => ?_⟩
      obtain ⟨xe, r⟩ := g2 x H2 y
      have e2 : ExZ z H' H2 := .of xe
      have p2 : Ok z hs' H2 := p'.next e2 (p'.pot.keep xe)
      have ex2 := ex.trans e2
      have s2 : SR z (hid z hs' H2) (wipe σ vs) (wipeD ρ vs) := (s1.mono fun a o ha => by
        obtain ⟨m1, m2, ha⟩ := hid_some ha
        rw [hid_ne m1 (by
          rintro (q | q)
          · exact m2 q
          · rw [q, nD] at ha; cases ha)]
        exact ex2 a o m1 ha).wipe vs
      refine w1 i ad hlt hl hw hs' _ H2 p2 s2 x r _ fun σ3 H3 ρ3 e3 p3 s3 hwp q3 => ⟨by rw [hwp, wipe_idem], ?_⟩
      refine q3 hs' σ3 H3 p3 s3 _ fun b H4 e4 p4 q4 => ?_
      have nDl : z ≠ some Dl := o1
      have ex4 := e2.trans (e3.trans e4)
      cases b with
      | true =>
        rw [if_pos rfl] at q4 ⊢
        refine q4 hs' σ3 H4 p4 (s3.mono (exz_hid e4)) _ fun v H5 d e5 p5 r5 q5 => ?_
        have ex5 := ex4.trans e5
        have hD5 := ex5 Dl _ nDl hD
        have hidE : hid z hs' (upd H5 Dl (.lst (av ++ [v]))) = hid z hs' H5 := hid_upd (.inr (.inr rfl))
        refine ⟨av, hD5, ?_, fun a o m ha => ?_, ⟨?_, ?_⟩, av ++ [v], ad ++ [d], upd_same, ?_, by simp; omega, q5⟩
        · rw [ra.length]
          exact Nat.lt_of_le_of_lt hl (Nat.lt_of_lt_of_le (Nat.lt_of_lt_of_le hlt hn) (by decide))
        · rw [upd_ne (ne_of_none ha nD)]
          exact (ex.trans ex5) a o m ha
        · exact fun a ha => by
            obtain ⟨j, k, q, rest⟩ := p5.pot a ha
            exact ⟨j, k, by rw [upd_ne (by rintro rfl; exact nDl ha)]; exact q, rest⟩
        · exact fun a ha => by
            obtain ⟨n1, o, ho⟩ := p5.tr a ha
            by_cases e : a = Dl
            · subst e
              exact ⟨n1, _, upd_same⟩
            · exact ⟨n1, o, by rw [upd_ne e]; exact ho⟩
        · rw [hidE]
          exact (RA.mono (exz_hid ex5) _ _ ra).append (.cons r5 .nil)
      | false =>
        rw [if_neg (by decide)] at q4 ⊢
        exact ⟨ex.trans ex4, p4, av, ad, ex4 Dl _ nDl hD, RA.mono (exz_hid ex4) _ _ ra, by omega, q4⟩
    · have : i = n := by omega
      subst this
      refine .inl ⟨q2 (Nat.le_refl _), w _ H' _ (e1.trans ex) ⟨p'.pot, fun a ha => p'.tr a (.inl ha)⟩ (.lst ?_ (RA.mono (hid_less fun a => .inl) _ _ ra)) (w2 ad hl hw)⟩
      rw [hid_ne o1 o2]
      exact hD
end
end PD

set_option Elab.async false
set_option linter.all false
set_option maxRecDepth 100000
set_option maxHeartbeats 4000000
/-! PX1: exceptions of own classes made as values, over any of the built-in bases; with keywords too. -/
namespace PX
open PySem PySem.W PySem.PX Builtin Builtin.ObjectAttr
section
variable {M : Model} {prog : Program} {w : World} {A : Around} {E : Value → Shared → Prop} {R : Result → Shared → Prop} {hp : Heap} {g : Array GenState} {d : Drawn} {t : Nat} {os : OsState}
variable {nm q : Str} {C N : Addr} {bs bm bmB : List Value} {hdct : Bool} {sn : List Str} {sub : List Value} {ab : Bool} {col : Option Bool} {dd : Option Addr} {k0 k1 k2 k3 k5 : Option Value} {B newId initId : String}
theorem checkNew (F : ExcBaseFacts B newId initId bmB) (hT : ∀ X : String, bm.contains (.type X) = bmB.contains (.type X)) {us : List Value} {kw : List (Str × Value)} {Q : Unit → Shared → Prop}
    (hC : hp.get? C = some (excClassObj nm q C N bs bm hdct sn sub ab col dd k0 k1 k2 k3 k5 newId)) (hq : Q () ⟨hp, g, d, t, os⟩) : wpAny M A (checkBuiltinCall newId ⟨.ref C :: us, kw⟩) Q E ⟨hp, g, d, t, os⟩ := by
  have hcb : (Value.ref C :: bm).contains (.type B) = true := by rw [List.contains_cons, hT, F.hasB, Bool.or_true]
  have hns := F.noStar
  simp only [checkBuiltinCall, F.newKind, F.newSplit, F.newRow]
  repeat (first | refine wpAny_loadPart_at hC ?_ | (refine wpAny_isSubtype_exc hC ?_; rw [hcb]) | refine wpAny_staticBase_exc hC ?_ | refine wpAny_madeBy_exc hC ?_ | simp only [bne_self_eq_false, Bool.false_eq_true, if_false] | wp_step)
  exact hq
/-- BaseException.__new__ of the class at C, whatever keywords -/
theorem madeNew (F : ExcBaseFacts B newId initId bmB) (hT : ∀ X : String, bm.contains (.type X) = bmB.contains (.type X)) {us : List Value} {kw : List (Str × Value)}
    (hC : hp.get? C = some (excClassObj nm q C N bs bm hdct sn sub ab col dd k0 k1 k2 k3 k5 newId)) (hz : us.length ≤ sizeLine)
    (hq : R (.ok (.ret (.ref (hp.objs.size + 1)))) ⟨(hp.push (kdv_tup us)).push (excO C hp.objs.size), g, d, t, os⟩) : codeAny (model prog w) A (.builtin newId ⟨.ref C :: us, kw⟩) R ⟨hp, g, d, t, os⟩ := by
  have e1 := F.ends
  have cB : (Value.ref C :: bm).contains (.type B) = true := by rw [List.contains_cons, hT, F.hasB, Bool.or_true]
  have cA : (Value.ref C :: bm).contains (.type "AttributeError") = false := by rw [List.contains_cons, hT, F.noAttr]; rfl
  have cN : (Value.ref C :: bm).contains (.type "NameError") = false := by rw [List.contains_cons, hT, F.noName]; rfl
  refine codeAny_builtinAt F.entry ?_
  unfold Builtin.«BaseException.__new__»
  refine wpAt_bind ?_
  show wpAt _ _ _ (stack >>= _) _ _ _
  refine wpAt_bind (wpAt_stack fun p below => wpAt_of_wpAny ?_)
  wp_walk
  refine wpAt_of_wpAny ?_
  rw [F.owner]
  repeat (first | with_reducible refine wpAny_madeHere_exc F.canon hC ?_ | with_reducible refine wpAny_loadPart_at hC ?_ | (with_reducible refine wpAny_isSubtype_exc hC ?_; first | rw [cB] | rw [cA] | rw [cN]) | wp_step)
  show R _ _
  rw [Heap.size_push]
  exact hq
theorem typeCall (F : ExcBaseFacts B newId initId bmB) (hT : ∀ X : String, bm.contains (.type X) = bmB.contains (.type X)) {us : List Value} {kw : List (Str × Value)} {fI : Addr} {Q : Fin → Shared → Prop}
    (hC : hp.get? C = some (excClassObj nm q C N bs bm hdct sn sub ab col dd k0 k1 k2 k3 k5 newId)) (hz : us.length ≤ sizeLine)
    (hi : Looks (model prog w) hp (typeLookup (.ref C) "__init__") (some (.ref fI))) (hb : ∀ self, Looks (model prog w) hp (bindSpecial (.ref fI) self) (.ref fI, [self]))
    (hq : codeAny (model prog w) A (.call (.ref fI) ⟨.ref (hp.objs.size + 1) :: us, kw⟩)
      (fun r s' => match r with | .ok (.ret v) => v = .none ∧ Q (.done (.ret (.ref (hp.objs.size + 1)))) s' | .ok _ => False | .error e => E e s') ⟨(hp.push (kdv_tup us)).push (excO C hp.objs.size), g, d, t, os⟩) :
    wpAny (model prog w) A (Builtin.«type.__call__» ⟨.ref C :: us, kw⟩) Q E ⟨hp, g, d, t, os⟩ := by
  repeat (first | with_reducible refine wpAny_loadPart_at hC ?_ | with_reducible refine wpAny_madeBy_exc hC ?_ | wp_step)
  refine codeAny_call_builtin_code (Code.quiet_builtin _ F.quiet) (checkNew F hT hC ?_)
  refine madeNew F hT hC hz ?_
  show wpAny _ _ _ _ _ _
  have kp : ∀ b o, hp.get? b = some o → ((hp.push (kdv_tup us)).push (excO C hp.objs.size)).get? b = some o := fun b o e => Heap.get?_push_of_some _ (Heap.get?_push_of_some _ e)
  have gC := kp _ _ hC
  have gx : ((hp.push (kdv_tup us)).push (excO C hp.objs.size)).get? (hp.objs.size + 1) = some (excO C hp.objs.size) := by heap_get
  have cC : (Value.ref C :: bm).contains (.ref C) = true := by simp
  have i1 := hi.keeps kp
  have b1 := (hb (.ref (hp.objs.size + 1))).keeps kp
  unfold isInstance
  repeat (first | with_reducible refine wpAny_loadPart_at gx ?_ | (with_reducible refine wpAny_isSubtype_exc gC ?_; rw [cC]) | wp_step)
  show wpAny _ _ (typeLookup (.ref C) _) _ _ _
  refine i1.at ?_
  refine wpAny_holding (wpAny_bind (b1.at ?_))
  refine wpAny_bind (wpAny_call (codeAny_mono hq fun r s' y => ?_))
  rcases r with e | (v | _ | _ | _) <;> first | exact y | exact y.elim | skip
  obtain ⟨rfl, y⟩ := y
  first
    | exact wpAny_pure (wpAny_pure y)
    | (wp_walk; exact y)
theorem callOwn (F : ExcBaseFacts B newId initId bmB) (hT : ∀ X : String, bm.contains (.type X) = bmB.contains (.type X)) {us : List Value} {kw : List (Str × Value)} {fI : Addr}
    (hC : hp.get? C = some (excClassObj nm q C N bs bm hdct sn sub ab col dd k0 k1 k2 k3 k5 newId)) (hz : us.length ≤ sizeLine)
    (hi : Looks (model prog w) hp (typeLookup (.ref C) "__init__") (some (.ref fI))) (hb : ∀ self, Looks (model prog w) hp (bindSpecial (.ref fI) self) (.ref fI, [self]))
    (hq : codeAny (model prog w) (A.under (.builtin "type.__call__" ⟨.ref C :: us, kw⟩)) (.call (.ref fI) ⟨.ref (hp.objs.size + 1) :: us, kw⟩) (InitBack (hp.objs.size + 1) R) ⟨(hp.push (kdv_tup us)).push (excO C hp.objs.size), g, d, t, os⟩) :
    codeAny (model prog w) A (.call (.ref C) ⟨us, kw⟩) R ⟨hp, g, d, t, os⟩ := by
  have f1 := tc_lookup
  have f2 := tc_bind (.ref C)
  have ty : (⟨hp, g, d, t, os⟩ : Shared).TypeIs (.ref C) "type" := ⟨_, hC, rfl⟩
  refine codeAny_of_tree ?_
  show wpAny _ _ (callAny (.ref C) _) _ _ _
  repeat (any_goals (first | assumption | with_reducible refine wpAny_loadPart_at hC ?_ | wp_step))
  refine ⟨rfl, ?_⟩
  refine codeAny_call_builtin_at (Code.quiet_builtin _ (by decide +kernel)) entry_typeCall (wpAny_check_type_call_sub hC (typeCall F hT hC hz hi hb ?_))
  refine codeAny_mono hq fun r s' y => ?_
  rcases r with e | (v | _ | _ | _) <;> exact y
end
end PX

set_option Elab.async false
set_option linter.all false
set_option maxRecDepth 100000
set_option maxHeartbeats 4000000
/-! PX2: the same over the layer: classes' facts, stores, Base.__init__, C(..) as a value, fields, isinstance. -/
namespace PD
open PySem PySem.Spec PyProof.Rows L2
/-- what a built-in base says -/
structure ExB (B newId initId : String) (bm : List Value) : Prop where
  f : ExcBaseFacts B newId initId bm
  s : StoreFacts B bm "object.__setattr__" "object"
abbrev tailOf (B : String) : List Value := [.type B, .type "Exception", .type "BaseException", .type "object"]
theorem exb_V : ExB "ValueError" "ValueError.__new__" "ValueError.__init__" (tailOf "ValueError") := ⟨F.excBase_ValueError, F.store_ValueError⟩
theorem exb_L : ExB "LookupError" "LookupError.__new__" "LookupError.__init__" (tailOf "LookupError") := ⟨F.excBase_LookupError, F.store_LookupError⟩
theorem exb_R : ExB "RuntimeError" "RuntimeError.__new__" "RuntimeError.__init__" (tailOf "RuntimeError") := ⟨F.excBase_RuntimeError, F.store_RuntimeError⟩
theorem exb_A : ExB "ArithmeticError" "ArithmeticError.__new__" "ArithmeticError.__init__" (tailOf "ArithmeticError") := ⟨F.excBase_ArithmeticError, F.store_ArithmeticError⟩
/-- what the written part says of an own class over such a base -/
structure OxB (K : PySem.W.Frag) (C : Addr) (newId : String) (bm : List Value) : Prop where
  ci : PySem.W.excInitIn K C bm newId = true
  ov : PySem.W.excOver K C bm = true
  sa : PySem.W.findIn K (.ref C) "__setattr__" = some (some (.builtin "object.__setattr__"))
  kC : PySem.W.keepIn K (.ref C) = true
  tyC : PySem.W.typeIn K (.ref C) = some (.type "type")
  ex : ExcC K C
def oxB (K : PySem.W.Frag) (newId : String) (bm : List Value) (C : Addr) : Bool :=
  PySem.W.excInitIn K C bm newId && PySem.W.excOver K C bm && decide (PySem.W.findIn K (.ref C) "__setattr__" = some (some (.builtin "object.__setattr__"))) && PySem.W.keepIn K (.ref C)
    && decide (PySem.W.typeIn K (.ref C) = some (.type "type")) && decide (PySem.W.findIn K (.ref C) "__getattribute__" = some (some (.builtin "BaseException.__getattribute__")))
    && decide (PySem.W.findIn K (.ref C) "__getattr__" = some none) && decide (PySem.W.subIn K (.ref C) (.type "BaseException") = some true) && PySem.W.hasDictIn K C
    && decide (PySem.W.findIn K (.ref C) "__class__" = some (some (.builtin "object.__class__"))) && decide (PySem.W.specialIn K (.builtin "object.__class__") "__get__" = some (some (.builtin "getset_descriptor.__get__")))
    && decide (PySem.W.takesIn K (.builtin "object.__class__") = some true) && decide (PySem.W.mroIn K C (.type "object") = some true)
theorem oxB_ok {K : PySem.W.Frag} {newId : String} {bm : List Value} {C : Addr} (h : oxB K newId bm C = true) : OxB K C newId bm := by
  unfold oxB at h
  simp only [Bool.and_eq_true, decide_eq_true_eq] at h
  obtain ⟨⟨⟨⟨⟨⟨⟨⟨⟨⟨⟨⟨h1, h2⟩, h3⟩, h4⟩, h5⟩, h6⟩, h7⟩, h8⟩, h9⟩, h10⟩, h11⟩, h12⟩, h13⟩ := h
  exact ⟨h1, h2, h3, h4, h5, ⟨h6, h7, h8, h9, h10, h11, h12, h13⟩⟩
section
variable {X : Cx} {pins : List (Addr × Obj)} {σ : L2.St} {H : Hp} {s : Shared} {a C dx : Addr} {f : Str} {y : V} {u : Value} {fs : List (Str × V)} {A : Around} {E : Value → Shared → Prop} {B newId initId : String} {bm : List Value}
/-- the heap behind the first store -/
theorem inv_store1 {hp h' : Heap} {g : Array GenState} {dr : Drawn} {tk tk' : Nat} {os : OsState} {t1 : Addr} (I : Inv X pins σ H ⟨hp, g, dr, tk, os⟩) (e : H a = some (exo a C none))
    (ry : RelV y u) (k : ∀ b o, b ≠ a → hp.get? b = some o → h'.get? b = some o) (dn : hp.objs.size ≤ dx) (dne : dx ≠ a)
    (hx : h'.get? a = some ({ cls := .ref C, dict := some dx, data := .fields #[.ref t1, .none, .none, .none, .bool false, .none] } : Obj)) (hn : h'.Ns1 dx (fun b => if b = f then some u else none)) :
    H dx = none ∧ Inv X pins σ (upd (upd H dx (exd dx [(f, y)])) a (exo a C (some dx))) ⟨h', g, dr, tk', os⟩ := by
  have nw : H dx = none := I.hok.fresh dn
  have old : ∀ {b : Addr} {o : Obj}, hp.get? b = some o → b ≠ dx := fun q => Nat.ne_of_lt (Nat.lt_of_lt_of_le (Heap.lt_size q) dn)
  have un : ∀ {b : Addr}, H b = none → b ≠ a := fun n z => by
    rw [z, e] at n
    cases n
  have two : ∀ {b : Addr} {o : HO}, H b = some o → exo a C none ≠ o → upd (upd H dx (exd dx [(f, y)])) a (exo a C (some dx)) b = H b := fun q z => by
    rw [upd_ne (at_ne e q z), upd_ne (ne_of_none q nw)]
  refine ⟨nw, I.un (t' := tk') ?_ ?_⟩
  · exact {
      keep := fun b o q n _ _ => k b o (un n) q
      slot := fun b o q n _ _ => ⟨o.slots, k b o (un n) q⟩
      free := fun b o q n _ => (upd_ne (un n)).trans ((upd_ne (old q)).trans n)
      there := fun b o q _ => by
        rcases Decidable.em (b = a) with hb | hb
        · rw [hb]; exact ⟨_, hx⟩
        · exact ⟨o, k b o hb q⟩
      tups := fun b xs q => (two q exo_tup).trans q
      frzs := fun b o v q => (two q exo_frz).trans q
      tbls := fun b ps q => ⟨#[], ((two q exo_tbl).trans q).trans (by simp)⟩ }
  · intro b o q
    rcases Decidable.em (b = a) with hb | hb
    · subst hb
      rw [upd_same] at q
      cases q
      exact exo_ok hx
    · rw [upd_ne hb] at q
      rcases Decidable.em (b = dx) with hd | hd
      · subst hd
        rw [upd_same] at q
        cases q
        exact exd_ok hn (relO_put (fs := []) ry fun _ => True.intro)
      · rw [upd_ne hd] at q
        refine (I.hok b o q).stay (fun c v hc z' => k c v ?_ z') (fun c hc => (two hc exo_own).trans hc) fun c xs hc => (two hc exo_tup).trans hc
        rcases hc with hc | hc
        · rw [hc]; exact hb
        · exact at_ne e hc exo_own
theorem set_first (SF : StoreFacts B bm "object.__setattr__" "object") (T : OxB X.K C newId bm) (I : Inv X pins σ H s) (e : H a = some (exo a C none)) (hno : PySem.W.findIn X.K (.ref C) f = some none) (ry : RelV y u) {Q : Unit → Shared → Prop}
    (h : ∀ dx s', H dx = none → dx ≠ a → Inv X pins σ (upd (upd H dx (exd dx [(f, y)])) a (exo a C (some dx))) s' → Q () s') : wpAny (model X.prog X.w) A (setAttr (.ref a) f u) Q E s := by
  obtain ⟨t1, ho⟩ := exo_at I.hok e
  obtain ⟨hp, g, dr, tk, os⟩ := s
  have ia : PySem.W.InstAt hp a (PySem.W.excObj C t1 none .none) C none := ⟨ho, rfl, rfl, trivial⟩
  refine PySem.W.set_plain (od := none) I.kIn ia T.sa ?_
  refine PySem.W.osa_openX (od := none) SF I.kIn ia T.ov (NoAttr.taker hno) fun b => ?_
  obtain ⟨cd, hc, hd⟩ := PySem.W.any_some T.ex.hd
  refine wpAny_bind (wpAny_pure (wpAny_bind (PySem.W.instanceDict_exc (t := t1) (c2 := .none) ho (PySem.W.looks_clsIn I.kIn hc) hd ?_)))
  have na : hp.objs.size ≠ a := Nat.ne_of_gt (Heap.lt_size ho)
  show wpAny _ _ (Builtin.ObjectAttr.storeInDict hp.objs.size _ f u) _ _ _
  have e1 : ((hp.push (PySem.W.dictOf [] 0)).update a fun o => { o with dict := some hp.objs.size }).get? a = some { PySem.W.excObj C t1 none .none with dict := some hp.objs.size } := Heap.get?_update_self _ (Heap.get?_push_of_some _ ho) rfl
  refine HandSPX.store_in_new ?_ fun h' tk' hn' hs => ?_
  · exact ⟨_, #[], _, (Heap.get?_update_ne _ _ _ _ na).trans (Heap.get?_push_at rfl rfl), rfl, fun e he => absurd he (by simp), fun _ => rfl⟩
  · obtain ⟨n, J⟩ := inv_store1 (tk' := tk') (t1 := t1) I e ry (fun b o hb q => (hs.2 b (Nat.ne_of_lt (Heap.lt_size q))).trans ((Heap.get?_update_ne _ _ _ _ hb).trans (Heap.get?_push_of_some _ q))) (Nat.le_refl _) na ((hs.2 a na.symm).trans e1) hn'
    exact h _ _ n na J
theorem set_later (SF : StoreFacts B bm "object.__setattr__" "object") (T : OxB X.K C newId bm) (I : Inv X pins σ H s) (e : H a = some (exo a C (some dx))) (ed : H dx = some (exd dx fs)) (hl : fs.length ≤ 900) (hno : PySem.W.findIn X.K (.ref C) f = some none) (ry : RelV y u) {Q : Unit → Shared → Prop}
    (h : ∀ s', Inv X pins σ (upd H dx (exd dx ((f, y) :: fs))) s' → Q () s') : wpAny (model X.prog X.w) A (setAttr (.ref a) f u) Q E s := by
  obtain ⟨t1, ho⟩ := exo_at I.hok e
  obtain ⟨mA, hns, rel⟩ := exd_at I.hok ed
  have hw := within_of rel
  obtain ⟨hp, g, dr, tk, os⟩ := s
  obtain ⟨oD, _, _, hoD, _, _⟩ := hns.count hw
  have ia : PySem.W.InstAt hp a (PySem.W.excObj C t1 (some dx) .none) C (some oD) := ⟨ho, rfl, rfl, hoD⟩
  refine PySem.W.set_plain (od := some oD) I.kIn ia T.sa ?_
  refine PySem.W.osa_openX (od := some oD) SF I.kIn ia T.ov (NoAttr.taker hno) fun b => ?_
  obtain ⟨cd, hc, hd⟩ := PySem.W.any_some T.ex.hd
  refine wpAny_bind (wpAny_pure (wpAny_bind (wpAny_bind (wpAny_loadPart ho (wpAny_bind ((PySem.W.looks_clsIn (M := model X.prog X.w) I.kIn hc).at ?_))))))
  rw [hd]
  refine wpAny_pure (a := some dx) ?_
  refine OEX.store_in_old hns hw (by rw [List.length_map]; omega) fun h' tk' hn hs => ?_
  have hd : ∃ o, h'.get? dx = some o := by
    obtain ⟨o, _, _, e', _⟩ := hn
    exact ⟨o, e'⟩
  exact h _ (I.write (t' := tk') (x := dx) (e := dx) (o := exd dx ((f, y) :: fs)) (by rw [ed]; exact True.intro) (.inl rfl) (fun b o hb q => (hs.2 b hb).trans q) hd (exd_ok hn (relO_put ry rel)))
/-- Base.__init__(self, ..): nothing of it is told -/
theorem base_init (FB : ExcBaseFacts B newId initId bm) (T : OxB X.K C newId bm) (I : Inv X pins σ H s) (e : H a = some (exo a C none)) {us : List Value} (hl : us.length ≤ sizeLine) {Q : Value → Shared → Prop} (h : ∀ s', Inv X pins σ H s' → Q .none s') :
    wpAny (model X.prog X.w) A (call (.builtin initId) (.ref a :: us)) Q E s := by
  obtain ⟨nm, N, qn, bs, bm', hdct, sn, sub, ab, col, dd, k0, k1, k2, k3, k5, hC, hT⟩ := PySem.W.excInit_of I.kIn T.ci
  obtain ⟨t1, ho⟩ := exo_at I.hok e
  obtain ⟨hp, g, dr, tk, os⟩ := s
  refine wpAny_call (HandSPX.init_base FB hT hC ho hl fun h' t2 k hx => ?_)
  have J := I.write (t' := tk) (x := a) (e := a) (o := exo a C none) (by rw [e]; exact True.intro) (.inl rfl) k ⟨_, hx⟩ (exo_ok hx)
  have same : upd H a (exo a C none) = H := funext fun b => by
    rcases Decidable.em (b = a) with hb | hb
    · rw [hb, upd_same, e]
    · exact upd_ne hb
  rw [same] at J
  exact h _ J
end
end PD

set_option Elab.async false
set_option linter.all false
set_option maxRecDepth 100000
set_option maxHeartbeats 4000000
/-! PX3: rules: Base.__init__(self, ..), self.f = e, C(..), e.f, isinstance(e, C). -/
namespace PD
open PySem PySem.Spec PyProof.Rows L2
section
open PySem.W PySem.Calls
variable {prog : Program} {w : World} {A : Around} {E : Value → Shared → Prop} {s : Shared} {K : Frag} {e D : Addr} {oe : Obj} {od : Option Obj}
/-- e.__class__ of an exception of an own class, with or without a dict of its own -/
theorem class_of_exc {Q : Option Value → Shared → Prop} (T : ExcC K D) (KX : K.In s.heap) (J : InstAt s.heap e oe D od) (h : Q (some (.ref D)) { s with toks := s.toks + 1 }) : wpAny (model prog w) A (getAttr? (.ref e) "__class__") Q E s := by
  obtain ⟨cd, hcd, _⟩ := any_some T.hd
  have fnd : findObj K D od "__class__" = some (.bind (.builtin "getset_descriptor.__get__") (.builtin "object.__class__")) := by
    unfold findObj
    rw [hcd, Option.bind_some, T.ha, Option.bind_some]
    simp [T.hn, T.ht]
  obtain ⟨hp, gs, dr, tk, os⟩ := s
  have l0 := J.type (M := model prog w)
  have l1 := looks_findIn (M := model prog w) KX T.hg
  have l2 := looks_findIn (M := model prog w) KX T.hk
  have l3 := looks_find (M := model prog w) KX J fnd
  have isB : Looks (model prog w) hp (isInstance (.ref e) (.type "BaseException")) true := l0.andThen (looks_subIn KX T.hs)
  have z2 : (Value.builtin "BaseException.__getattribute__" == Value.builtin "object.__getattribute__") = false := by decide +kernel
  have z1 : (onTheHeap (Value.ref D) && Value.builtin "BaseException.__getattribute__" == Value.builtin "object.__getattribute__") = false := by rw [z2]; rfl
  have z0 : (false && onTheHeap (Value.builtin "BaseException.__getattribute__")) = false := rfl
  unfold getAttr? getAttrBy? getAttrBy
  refine wpAny_bind (wpAny_mkText (wpAny_bind (wpAny_attempt (wpAny_holding (wpAny_bind (l0.at (wpAny_bind (l1.at ?_))))))))
  show wpAny _ _ (if (onTheHeap (Value.ref D) && Value.builtin "BaseException.__getattribute__" == Value.builtin "object.__getattribute__") = true then _ else _) _ _ _
  rw [z1, if_neg Bool.false_ne_true]
  unfold getAttrByItsOwn hookBefore
  refine wpAny_bind ?_
  rw [if_pos (show onTheHeap (Value.ref D) = true from rfl)]
  refine l2.at (wpAny_bind (wpAny_attempt (wpAny_holding ?_)))
  unfold callGetattribute
  rw [z0, if_neg Bool.false_ne_true]
  unfold boundAndCalled
  rw [PySem.F.excAttr_ValueError.ga.bind (.ref e)]
  refine wpAny_bind (wpAny_pure ?_)
  show wpAny _ _ (call (.builtin "BaseException.__getattribute__") [.ref e, .str "__class__" tk]) _ _ _
  refine wpAny_call (codeAny_call_builtin PySem.F.excAttr_ValueError.ga.plain PySem.F.entry_bexc_ga ?_)
  refine @check_slot (model prog w) _ _ ⟨hp, gs, dr, tk + 1, os⟩ "BaseException.__getattribute__" "BaseException" "__getattribute__" (.ref e) [.str "__class__" tk] [] _ (by decide +kernel) (by decide +kernel) isB (PySem.F.args_bexc_ga (.ref e) (.str "__class__" tk)) ?_
  unfold Builtin.«object.__getattribute__»
  refine wpAny_bind (wpAny_of_eq (a := ((Value.ref e : Value), [Value.str "__class__" tk])) (by first | rfl | (simp only [slotArgs]; rfl)) ?_)
  refine wpAny_bind (wpAny_pure (wpAny_bind (l0.at (wpAny_bind (l3.at ?_)))))
  show wpAny _ _ (holding [Value.builtin "object.__class__"] (call (.builtin "getset_descriptor.__get__") [.builtin "object.__class__", .ref e, .ref D]) >>= ret) _ _ _
  refine wpAny_bind (wpAny_holding (wpAny_call (class_get (s := ⟨hp, gs, dr, tk + 1, os⟩) (ox := oe) (od := od) KX J T.hm ?_)))
  refine wpAny_pure ?_
  show wpAny _ _ (handedOut (.ref D)) _ _ _
  rw [handedOut_of (v := .ref D) rfl]
  first
    | exact wpAny_pure (wpAny_pure h)
    | exact wpAny_pure h
    | exact wpAny_pure (wpAny_bind (wpAny_pure (wpAny_pure h)))
theorem kit_exc (T : ExcC K D) : KitX K (.ref e) (.ref D) (fun h => InstAt h e oe D od) := by
  obtain ⟨cd, hcd, _⟩ := any_some T.hd
  have hD : ∃ ob c, K.lookup D = some ob ∧ ob.data = .cls c := by
    unfold clsIn at hcd
    split at hcd
    · rename_i ho
      exact ⟨_, _, ho, rfl⟩
    · cases hcd
  obtain ⟨⟨ocl, odi, oda, osl⟩, c, ho, hc⟩ := hD
  dsimp only at hc
  subst hc
  exact {
    ty := fun _ _ _ J => J.type
    it := fun _ _ KX _ => fun A' Q' E' s' k q => by
      unfold isType loadHead
      exact wpAny_bind (wpAny_loadPart (k _ _ (KX _ _ ho)) (wpAny_pure q))
    ne := fun h tp dd its n sl KX htp => by
      refine Bool.eq_false_iff.mpr fun q => ?_
      obtain rfl : D = tp := Value.ref.inj (beq_iff_eq.mp q)
      have y := (KX _ _ ho).symm.trans htp
      cases y
    ca := fun KX J k => class_of_exc T KX J k }
end
/-- W.__init__(self, ..), W an own class that has it of its built-in base -/
def tBin (K : PySem.W.Frag) (newId : String) (bm : List Value) (ta : TA) : TE := fun σ H Q => ta σ H fun vs H1 => ∃ (a C : Addr) (ws : List V), vs = .ref a :: ws ∧ ws.length ≤ 1000 ∧ OxB K C newId bm ∧ H1 a = some (exo a C none) ∧ Q .non H1
/-- self.f = e -/
def tOset (K : PySem.W.Frag) (newId : String) (bm : List Value) (f : Str) (to te : TE) : TS := fun D σ H => te σ H fun y H1 => to σ H1 fun x H2 => ∃ a C : Addr, x = .ref a ∧ OxB K C newId bm ∧ PySem.W.findIn K (.ref C) f = some none ∧
  ((H2 a = some (exo a C none) ∧ ∀ dx, H2 dx = none → dx ≠ a → D.nx σ (upd (upd H2 dx (exd dx [(f, y)])) a (exo a C (some dx)))) ∨
    ∃ (dx : Addr) (fs : List (Str × V)), H2 a = some (exo a C (some dx)) ∧ H2 dx = some (exd dx fs) ∧ fs.length ≤ 900 ∧ D.nx σ (upd H2 dx (exd dx ((f, y) :: fs))))
/-- C(..), its own __init__ keeping sp, as a value -/
def tMkV (C : Addr) (sp : Sp) (g : List V → List V → List V) (ta tk : TA) : TE := fun σ H Q => ta σ H fun vs H1 => tk σ H1 fun zs H2 => vs.length ≤ 1000 ∧ ∀ a, H2 a = none → sp (g (.ref a :: vs) zs) (upd H2 a (exo a C none)) (fun v H3 => v = .non ∧ Q (.ref a) H3) fun _ _ _ => False
/-- e.f of such an exception -/
def tXfl (K : PySem.W.Frag) (newId : String) (bm : List Value) (f : Str) (te : TE) : TE := fun σ H Q => te σ H fun x H1 => ∃ (a C dd : Addr) (fs : List (Str × V)) (v : V), x = .ref a ∧ (∃ newId bm, OxB K C newId bm) ∧ PySem.W.findIn K (.ref C) f = some none ∧ H1 a = some (exo a C (some dd)) ∧ H1 dd = some (exd dd fs) ∧ fs.lookup f = some v ∧ Q v H1
/-- isinstance(e, c), e such an exception -/
def rIsX (K : PySem.W.Frag) : List V → Hp → VK → Prop := fun xs H Q => ∃ (a C : Addr) (dd : Option Addr) (c : V) (cv : Value) (b : Bool), xs = [.ref a, c] ∧ ExcC K C ∧ H a = some (exo a C dd) ∧ (∀ d, dd = some d → ∃ fs, H d = some (exd d fs)) ∧ (∀ u, RelV c u → u = cv) ∧ PySem.W.kitOne K (.ref C) cv = some b ∧ Q (.bl b) H
section
variable {X : Cx} {o e : Expr} {es : List Expr} {to te : TE} {ta tk : TA} {f x : Str} {p p' p1 p2 pos : Pos} {B newId initId : String} {bm : List Value} {W C : Addr}
theorem pe_bin {pl : Sem Bool} {mc : Value} (FB : ExB B newId initId bm) (hg : Gl X x) (hm : X.mg x = some (.ref W)) (rd : PySem.W.readsIn X.K W mc = true) (ga : PySem.W.specialIn X.K (.ref W) "__getattribute__" = some (some (.builtin "type.__getattribute__")))
    (at_ : PySem.W.findCls X.K (.ref W) mc "__init__" = some (.val (.builtin initId))) (ha : PA X (e :: es) ta) (hh : PySem.W.handedIn (.builtin initId) = true := by rfl) (hdb : (x == ("__debug__" : Str)) = false := by decide)
    (hc : eval (.Call (.Attribute (.Name x p1) "__init__" p2) (e :: es) [] pos) X.env = (do
      let ov ← eval (.Name x p1) X.env
      standAt p2.atName
      let (f, first) ← holding [ov] (getMethod ov "__init__" pl)
      callWith pos f first (backTo pos (starEach (e :: es) X.env)) (backToKw pos (keywordEach [] X.env))) := by rfl)
    (he : starEach (e :: es) X.env = (false, eval e X.env) :: starEach es X.env := by rfl) (hpl : (backTo pos (starEach es X.env)).any (·.1) = false := by rfl) :
    PE X (.Call (.Attribute (.Name x p1) "__init__" p2) (e :: es) [] pos) (tBin X.K newId bm ta) := by
  refine ⟨fun pins s σ H Q I h => ?_⟩
  refine PySem.W.methodCall_KW (ld_glob I hg hm ?_ hdb) hc
  refine PySem.W.method_cls (I.tok _).kIn ga (PySem.W.cls_value (I.tok _).kIn rd at_ hh ?_)
  show wpAny _ _ (callWith pos (Value.builtin initId) [] (backTo pos (starEach (e :: es) X.env)) []) _ _ _
  refine PyProof.Rows.callWith_method1 (thn (ha.run pos pins _ σ H _ (I.tok _) h) fun us s1 ⟨vs, H1, I1, r1, a, C, ws, ev, hl, T, ea, q⟩ => ?_) he hpl
  subst ev
  cases r1 with
  | @cons _ u0 _ ur ra rw' =>
    obtain rfl : u0 = Value.ref a := ra
    have hlen : ur.length ≤ sizeLine := by
      rw [← Paired.length rw', sizeLine_eq]
      omega
    exact base_init FB.f T I1 ea hlen fun s' J => ⟨.non, H1, J, rfl, q⟩
theorem ps_oset (FB : ExB B newId initId bm) (ho : PE X o to) (he : PE X e te) (hs : swapsWith e (some (.Attribute o f p')) pos.line X.env = pure false := by rfl) : PS X (.Assign [.Attribute o f p'] e pos) (tOset X.K newId bm f to te) := by
  refine ⟨fun pins s σ H D I h => ?_⟩
  refine plainObj_wpAny_Assign_Attribute (thn (he.run pins s σ H _ I h) fun v s1 ⟨y, H1, I1, r1, q1⟩ => thn (ho.run pins s1 σ H1 _ I1 q1) fun u s2 ⟨x, H2, I2, r2, a, C, ex, T, hno, q⟩ => ?_) hs
  subst ex
  obtain rfl : u = Value.ref a := r2
  rcases q with ⟨ea, q⟩ | ⟨dx, fs, ea, ed, hl, q⟩
  · exact set_first FB.s T I2 ea hno r1 fun dx s' n ne J => ⟨σ, _, J, q dx n ne⟩
  · exact set_later FB.s T I2 ea ed hl hno r1 fun s' J => ⟨σ, _, J, q⟩
/-- C called with us and keywords -/
theorem run_mkv {CX : CXT} {fI : Addr} {k : Nat} {fd : FuncData} {ps ks : List Str} {sp : Sp} {g : List Value → List Value → List Value} {gV : List V → List V → List V} {pins : List (Addr × Obj)} {σ : L2.St} {H : Hp} {s : Shared} {Q : VK} {us ws : List Value} {vs zs : List V}
    (FB : ExB B newId initId bm) (T : OxB X.K C newId bm) (iC : PySem.W.findIn X.K (.ref C) "__init__" = some (some (.ref fI))) (tI : PySem.W.typeIn X.K (.ref fI) = some (.type "function"))
    (F1 : FnOk X.prog X.w X.K X.mg X.base CX k fI fd ps sp) (hr : Room (k + 1) X.A) (hb : KBinds X.K fd ps ks g gV) (hx : Passes CX X (fun _ _ _ => False)) (I : Inv X pins σ H s) (r : Vals vs us) (rz : Vals zs ws) (hl : vs.length ≤ 1000)
    (h : ∀ a, H a = none → sp (gV (.ref a :: vs) zs) (upd H a (exo a C none)) (fun v H3 => v = .non ∧ Q (.ref a) H3) fun _ _ _ => False) :
    wpAny (model X.prog X.w) X.A (call (.ref C) us (ks.zip ws)) (EP X pins σ Q) X.xe s := by
  obtain ⟨nm, N, qn, bs, bm', hdct, sn, sub, ab, col, dd, k0, k1, k2, k3, k5, hC, hT⟩ := PySem.W.excInit_of I.kIn T.ci
  obtain ⟨hp, g', dr, tk, os⟩ := s
  have hs1 : hp.objs.size ≤ hp.objs.size + 1 := Nat.le_succ _
  have hn : H (hp.objs.size + 1) = none := I.hok.fresh hs1
  have hq := h (hp.objs.size + 1) hn
  have kk : ∀ b o, hp.get? b = some o → ((hp.push (PySem.W.kdv_tup us)).push (PySem.PX.excO C hp.objs.size)).get? b = some o := fun b o e => Heap.get?_push_of_some _ (Heap.get?_push_of_some _ e)
  have hget : ((hp.push (PySem.W.kdv_tup us)).push (PySem.PX.excO C hp.objs.size)).get? (hp.objs.size + 1) = some (PySem.PX.excO C hp.objs.size) := by heap_get
  have I2 : Inv X pins σ (upd H (hp.objs.size + 1) (exo (hp.objs.size + 1) C none)) ⟨(hp.push (PySem.W.kdv_tup us)).push (PySem.PX.excO C hp.objs.size), g', dr, tk, os⟩ :=
    I.laid (t' := tk) (a := hp.objs.size + 1) (o := exo (hp.objs.size + 1) C none) (h' := (hp.push (PySem.W.kdv_tup us)).push (PySem.PX.excO C hp.objs.size)) kk hs1 (exo_ok hget)
  have r1 : Vals (V.ref (hp.objs.size + 1) :: vs) (Value.ref (hp.objs.size + 1) :: us) := .cons rfl r
  have r2 := hb.rel r1 rz
  have hlen : (g (Value.ref (hp.objs.size + 1) :: us) ws).length = ps.length := by rw [← r2.length]; exact F1.len _ _ _ _ hq
  have hus : us.length ≤ sizeLine := by
    rw [← Paired.length r, sizeLine_eq]
    omega
  refine wpAny_call (PX.callOwn FB.f hT hC hus (PySem.W.looks_findIn I.kIn iC) (fun self => PySem.W.bind_fn I.kIn self tI)
    (codeAny_mono (F1.run _ X.stack _ _ ⟨Value.ref (hp.objs.size + 1) :: us, ks.zip ws⟩ _ _ _ (fun _ _ _ => False) (hr.make C us (ks.zip ws)) (I2.env0.make C us (ks.zip ws)) (hb.to _ (Value.ref (hp.objs.size + 1) :: us) ws I2.kIn hlen) r2 hq) fun r s' hq' => ?_))
  cases r with
  | error er => exact hx pins σ _ _ er s' I2 hq'
  | ok fl =>
    cases fl with
    | ret u =>
      obtain ⟨v, H2, J, rv, ev, q2⟩ := I2.after hq'
      subst ev
      exact ⟨rv, V.ref (hp.objs.size + 1), H2, J, rfl, q2⟩
    | next => exact False.elim hq'
    | brk => exact False.elim hq'
    | cont => exact False.elim hq'
theorem binds_kb {K : PySem.W.Frag} {fd : FuncData} {ps : List Str} (hb : Binds K fd ps []) : KBinds K fd ps [] (fun us _ => us) (fun vs _ => vs) :=
  ⟨fun s us ws X hl => by have := hb s us X (by simpa using hl); simpa using this, fun r _ => r⟩
section
variable {CX : CXT} {fI : Addr} {k : Nat} {fd : FuncData} {ps ks : List Str} {sp : Sp} {g : List Value → List Value → List Value} {gV : List V → List V → List V} {kws : List Keyword} {nm0 : Option Str} {kpos : Pos}
theorem pe_mkE (FB : ExB B newId initId bm) (T : OxB X.K C newId bm) (iC : PySem.W.findIn X.K (.ref C) "__init__" = some (some (.ref fI))) (tI : PySem.W.typeIn X.K (.ref fI) = some (.type "function"))
    (F1 : FnOk X.prog X.w X.K X.mg X.base CX k fI fd ps sp) (hr : Room (k + 1) X.A) (hb : Binds X.K fd ps []) (hx : Passes CX X (fun _ _ _ => False)) (hg : Gl X x) (hm : X.mg x = some (.ref C)) (ha : PA X (e :: es) ta)
    (hdb : (x == ("__debug__" : Str)) = false := by decide) (he : starEach (e :: es) X.env = (false, eval e X.env) :: starEach es X.env := by rfl) (hpl : (backTo pos (starEach es X.env)).any (·.1) = false := by rfl) :
    PE X (.Call (.Name x p) (e :: es) [] pos) (tMkV C sp (fun vs _ => vs) ta tNil) := by
  refine ⟨fun pins s σ H Q I h => ?_⟩
  refine wpAny_Call_Name_kw (ld_glob I hg hm ?_ hdb)
  refine PySem.W.callWith_K (h₀ := X.base) I.ok.mod.kin T.kC (thn (ha.run pos pins s σ H _ I h) fun us s1 ⟨vs, H1, I1, r1, hz, q1⟩ => ⟨I1.kIn, ?_⟩) he hpl
  exact run_mkv (ks := []) (ws := []) (zs := []) FB T iC tI F1 hr (binds_kb hb) hx I1 r1 .nil hz q1
theorem pe_mkE0 (FB : ExB B newId initId bm) (T : OxB X.K C newId bm) (iC : PySem.W.findIn X.K (.ref C) "__init__" = some (some (.ref fI))) (tI : PySem.W.typeIn X.K (.ref fI) = some (.type "function"))
    (F1 : FnOk X.prog X.w X.K X.mg X.base CX k fI fd ps sp) (hr : Room (k + 1) X.A) (hb : Binds X.K fd ps []) (hx : Passes CX X (fun _ _ _ => False)) (hg : Gl X x) (hm : X.mg x = some (.ref C))
    (hdb : (x == ("__debug__" : Str)) = false := by decide) :
    PE X (.Call (.Name x p) [] [] pos) (tMkV C sp (fun vs _ => vs) tNil tNil) := by
  refine ⟨fun pins s σ H Q I h => ?_⟩
  refine wpAny_Call_Name_kw (ld_glob I hg hm ?_ hdb)
  exact PySem.W.callWith_K0 I.kIn T.kC (run_mkv (us := []) (vs := []) (ks := []) (ws := []) (zs := []) FB T iC tI F1 hr (binds_kb hb) hx I .nil .nil h.1 h.2)
theorem pe_mkEK (FB : ExB B newId initId bm) (T : OxB X.K C newId bm) (iC : PySem.W.findIn X.K (.ref C) "__init__" = some (some (.ref fI))) (tI : PySem.W.typeIn X.K (.ref fI) = some (.type "function"))
    (F1 : FnOk X.prog X.w X.K X.mg X.base CX k fI fd ps sp) (hr : Room (k + 1) X.A) (hb : KBinds X.K fd ps ks g gV) (hx : Passes CX X (fun _ _ _ => False)) (hg : Gl X x) (hm : X.mg x = some (.ref C)) (hkw : PK X kws tk)
    (hall : (backToKw pos (keywordEach kws X.env)).all (·.1.isSome) = true := by rfl) (hks : (backToKw pos (keywordEach kws X.env)).filterMap (·.1) = ks := by rfl)
    (hdb : (x == ("__debug__" : Str)) = false := by decide) (hpl : ((backTo pos (starEach [] X.env)).any (·.1) || (backToKw pos (keywordEach kws X.env)).any (·.1.isNone)) = false := by rfl) :
    PE X (.Call (.Name x p) [] kws pos) (tMkV C sp gV tNil tk) := by
  refine ⟨fun pins s σ H Q I h => ?_⟩
  refine wpAny_Call_Name_kw (ld_glob I hg hm ?_ hdb)
  refine PySem.W.callWith_KW0 (h₀ := X.base) I.ok.mod.kin T.kC hall (thn (hkw.run pos pins s σ H _ I h) fun ws s2 ⟨zs, H2, I2, rz, hz, q2⟩ => ⟨I2.kIn, ?_⟩) hpl
  rw [hks]
  exact run_mkv (us := []) (vs := []) FB T iC tI F1 hr hb hx I2 .nil rz hz q2
end
theorem pe_xfl (he : PE X e te) (hb : attributeBase e f X.env (eval e X.env) = eval e X.env := by rfl) : PE X (.Attribute e f pos) (tXfl X.K newId bm f te) := by
  refine ⟨fun pins s σ H Q I h => ?_⟩
  refine attr_of hb (thn (he.run pins s σ H _ I h) fun u s1 ⟨x, H1, I1, rx, a, C, dd, fs, v, ex, ⟨_, _, T⟩, hno, ea, ed, l, q⟩ => ?_)
  subst ex
  obtain rfl : u = Value.ref a := rx
  obtain ⟨t1, ho⟩ := exo_at I1.hok ea
  obtain ⟨mA, hns, hr⟩ := exd_at I1.hok ed
  obtain ⟨od, hod, hl⟩ := lookIn_ns hns
  obtain ⟨u, hu, ru⟩ := RelO.some_of (v := v) (o := mA f) (by rw [← l]; exact hr f)
  have J : PySem.W.InstAt s1.heap a (PySem.W.excObj C t1 (some dd) .none) C (some od) := ⟨ho, rfl, rfl, hod⟩
  exact HandSPX.exc_get I1.kIn J T.ex.hg T.ex.hk T.ex.hs (PySem.W.findObj_own T.ex.hd hno rfl (by rw [hl, hu])) (handed_of ru) ⟨v, H1, I1.tok _, ru, q⟩
theorem call_isX : CallR X (.builtin "isinstance") (rIsX X.K) := by
  intro pins s σ H xs us Q I r h
  obtain ⟨a, C, dd, c, cv, b, rfl, T, ea, hdd, hcv, e, q⟩ := h
  cases r with
  | cons rx rr =>
    cases rr with
    | cons rt rr =>
      cases rr
      cases rx
      have ec := hcv _ rt
      subst ec
      obtain ⟨t1, ho⟩ := exo_at I.hok ea
      cases dd with
      | none =>
        have J : PySem.W.InstAt s.heap a (PySem.W.excObj C t1 none .none) C none := ⟨ho, rfl, rfl, trivial⟩
        exact PySem.W.kia_one (kit_exc T) I.kIn J e (fun z => nomatch z) fun tk => ⟨.bl b, H, I.kept (t' := tk) fun _ _ z => z, rfl, q⟩
      | some d =>
        obtain ⟨fs, ed⟩ := hdd d rfl
        obtain ⟨mA, hns, hr⟩ := exd_at I.hok ed
        obtain ⟨od, hod, hl⟩ := lookIn_ns hns
        have J : PySem.W.InstAt s.heap a (PySem.W.excObj C t1 (some d) .none) C (some od) := ⟨ho, rfl, rfl, hod⟩
        exact PySem.W.kia_one (kit_exc T) I.kIn J e (fun z => nomatch z) fun tk => ⟨.bl b, H, I.kept (t' := tk) fun _ _ z => z, rfl, q⟩
end
end PD

set_option Elab.async false
set_option linter.all false
set_option maxRecDepth 100000
set_option maxHeartbeats 4000000
/-! PD4: defs that may show data (no repr is under way around them); the law's call; repr of data. -/
namespace PD
open PySem PySem.Spec PyProof.Rows L2

/-- as FnOk, called where no repr is under way -/
structure FnG (P : Program) (w : World) (K : PySem.W.Frag) (mg : Str → Option Value) (base : Heap) (CX : CXT) (k : Nat) (f : Addr) (fd : FuncData) (ps : List Str) (sp : Sp) : Prop where
  len : ∀ vs H Q E, sp vs H Q E → vs.length = ps.length
  run : ∀ (A : Around) (outer : List Env) (s : Shared) (H : Hp) (args : Args) (us : List Value) (vs : List V) (Q : VK) (E : XK), A.guards = some [] → Room k A → Env0 P w K mg base A outer s H → BindsTo s fd args (ps.zip us) → Vals vs us → sp vs H Q E →
    codeAny (model P w) A (.call (.ref f) args) (CR CX outer P w H s Q E) s
theorem FnG.of {P : Program} {w : World} {K : PySem.W.Frag} {mg : Str → Option Value} {base : Heap} {CX : CXT} {k : Nat} {f : Addr} {fd : FuncData} {ps : List Str} {sp : Sp} (F : FnOk P w K mg base CX k f fd ps sp) : FnG P w K mg base CX k f fd ps sp :=
  ⟨F.len, fun A outer s H args us vs Q E _ => F.run A outer s H args us vs Q E⟩
section
variable {P : Program} {w : World} {K : PySem.W.Frag} {mg : Str → Option Value} {base : Heap} {CX : CXT} {k : Nat} {f : Addr}
/-- a def by its body -/
theorem fnG_of {name qual : Str} {params : Arguments} {body : List Stmt} {scope : Scope} {dV kV doc pm cdv ct oc : Value} {an od : Option Addr} {osl : Array (Option Value)} {N ps : List Str} {sp : Sp}
    (lk : K.lookup f = some ⟨oc, od, .func (PySem.W.fnOf name qual params body scope dV kV doc pm an cdv ct), osl⟩) (hcd : PySem.W.codeIn K cdv qual = true) (S : FnScope N ps scope) (len : ∀ vs H Q E, sp vs H Q E → vs.length = ps.length)
    (hbody : ∀ (A : Around) (outer : List Env) (s : Shared) (H : Hp) (vs : List V) (Q : VK) (E : XK), A.guards = some [] → Room k (A.deeper (envOfC qual scope s.heap.objs.size f cdv)) → sp vs H Q E →
      ∃ t, PSs (cxOf CX P w K mg base N qual scope f cdv A outer s H E) body t ∧ t { nx := fun _ H' => Q .non H', rt := Q } (L2.start N vs) H) :
    FnG P w K mg base CX (k + 1) f (PySem.W.fnOf name qual params body scope dV kV doc pm an cdv ct) ps sp := by
  refine ⟨len, fun A outer s H args us vs Q E hg hr e0 hb r hsp => ?_⟩
  have KX : K.In s.heap := e0.mod.kin.keeps fun b o e => (e0.bs b o e).1
  have lim : s.heap.NoLimit := e0.mod.nolimit.keeps fun b o e => (e0.bs b o e).1
  refine codeAny_call_function hr.depth (KX _ _ lk) rfl S.co S.gen rfl (PySem.W.codeRec_of KX hcd) (hb _ _ _ _ ?_)
  refine wpAny_newFunctionEnv_cells S.kind (fun ⟨n, v⟩ hy => ?_) fun env he s1 x => ?_
  · rcases S.par n (List.of_mem_zip hy).1 with q | q
    · exact .inl q
    · exact .inr ⟨q, PySem.W.cellsFrom_some _ _ _ (.inl q)⟩
  subst he
  refine ⟨lim.keeps x.toInCall.keep, codeAny_func ?_⟩
  obtain ⟨t, ht, hq⟩ := hbody A outer s H vs Q E hg (hr.deeper _) hsp
  have I := inv_start (CX := CX) (E := E) S hr.hd e0 (len _ _ _ _ hsp) r x
  refine wpAny_mono (ht.run [] s1 (L2.start N vs) H _ I hq) (fun fl s' hs => ?_) fun e s' hs => hs
  cases fl with
  | ret u =>
    obtain ⟨v, σ', H', J, rv, q⟩ := hs
    exact ⟨v, H', J.os, J.bare, J.base, J.hok, rv, q⟩
  | next =>
    obtain ⟨σ', H', J, q⟩ := hs
    exact ⟨V.non, H', J.os, J.bare, J.base, J.hok, rfl, q⟩
  | brk => obtain ⟨_, _, _, q⟩ := hs; exact q.elim
  | cont => obtain ⟨_, _, _, q⟩ := hs; exact q.elim
theorem okG {x qual : Str} {st : Stmt} {fd : FuncData} {N ps : List Str} {sp : Sp} (F : Fun K x qual st f fd) (S : FnScope N ps (defScope st)) (len : ∀ vs H Q E, sp vs H Q E → vs.length = ps.length)
    (hbody : ∀ (cdv : Value) (A : Around) (outer : List Env) (s : Shared) (H : Hp) (vs : List V) (Q : VK) (E : XK), A.guards = some [] → Room k (A.deeper (envOfC qual (defScope st) s.heap.objs.size f cdv)) → sp vs H Q E →
      ∃ t, PSs (cxOf CX0 P w K mg base N qual (defScope st) f cdv A outer s H E).nox (defBody st) t ∧ t { nx := fun _ H' => Q .non H', rt := Q } (L2.start N vs) H) : FnG P w K mg base CX0 (k + 1) f fd ps sp := by
  obtain ⟨oc, od, kV, doc, pm, an, cdv, ct, osl, rfl, lk, hcd⟩ := F.ex
  refine fnG_of lk hcd S len fun A outer s H vs Q E hg hr hsp => ?_
  obtain ⟨t, h, q⟩ := hbody cdv A outer s H vs Q E hg hr hsp
  exact ⟨t, h.nox, q⟩
end
section
variable {X : Cx} {CX : CXT} {k : Nat} {f C : Addr} {fd : FuncData} {ps : List Str} {sp : Sp} {dvs : List V} {ds : List Value} {E : XK} {x m : Str} {p pos apos : Pos} {e o : Expr} {es : List Expr} {ta : TE} {t : TA}
theorem pe_callG (F : FnG X.prog X.w X.K X.mg X.base CX k f fd ps sp) (hgd : X.A.guards = some []) (hr : Room k X.A) (hg : Gl X x) (hm : X.mg x = some (.ref f)) (hk : PySem.W.keepIn X.K (.ref f) = true) (hb : Binds X.K fd ps ds) (hd : Vals dvs ds) (hx : Passes CX X E)
    (ha : PA X (e :: es) t) (hdb : (x == ("__debug__" : Str)) = false := by decide) (he : starEach (e :: es) X.env = (false, eval e X.env) :: starEach es X.env := by rfl) (hpl : (backTo pos (starEach es X.env)).any (·.1) = false := by rfl) :
    PE X (.Call (.Name x p) (e :: es) [] pos) (tCall sp dvs E t) := by
  refine ⟨fun pins s σ H Q I h => ?_⟩
  refine wpAny_Call_Name_kw (ld_glob I hg hm ?_ hdb)
  refine PySem.W.callWith_K (h₀ := X.base) I.ok.mod.kin hk (thn (ha.run pos pins s σ H _ I h) fun us s1 ⟨vs, H1, I1, r, q⟩ => ⟨I1.kIn, ?_⟩) he hpl
  have r2 : Vals (vs ++ dvs) (us ++ ds) := r.append hd
  have hl : (us ++ ds).length = ps.length := by rw [← r2.length]; exact F.len _ _ _ _ q
  refine wpAny_call (codeAny_mono (F.run X.A X.stack s1 H1 ⟨us, []⟩ (us ++ ds) (vs ++ dvs) Q E hgd hr I1.env0 (hb s1 us I1.kIn hl) r2 q) fun r s' hq => ?_)
  cases r with
  | error e => exact hx pins σ H1 s1 e s' I1 hq
  | ok fl =>
    cases fl with
    | ret u => exact I1.after hq
    | next => exact hq.elim
    | brk => exact hq.elim
    | cont => exact hq.elim
end

/-! ### the law's call -/
theorem lawG {P : Program} {w : World} {K : PySem.W.Frag} {mg mb : Str → Option Value} {k : Nat} {fa a : Addr} {fd : FuncData} {x : Str} {sp : Sp} {s₁ : Shared} {vs : List Value} {ns : List Int}
    (KX : K.In s₁.heap) (hns : s₁.heap.Ns mainGlobals mg) (hb : s₁.heap.Ns builtinsNs mb) (hbb : ∀ x : Str, x ≠ "__name__" → mb x = bootBuiltins x) (hlim : s₁.heap.NoLimit) (hg : s₁.gens = #[])
    (ha : s₁.heap.get? a = some { cls := .type "list", data := .seq vs.toArray }) (hi : IntsAre vs ns) (hl : ns.length ≤ sizeLine) (hr : Room k callerA)
    (F : ∀ base : Heap, K.In base → base.Ns mainGlobals mg → FnG P w K mg base CX0 k fa fd [x] sp) (hbind : ∀ (s : Shared) (u : Value), BindsTo s fd ⟨[u], []⟩ [(x, u)])
    (hsp : ∀ H : Hp, Only H → SqL K H a (ns.map V.int) → sp [.ref a] H (fun v _ => v = .bl true) fun _ _ _ => False) :
    codeAny (model P w) callerA (.call (.ref fa) ⟨[.ref a], []⟩) (fun r s' => r = .ok (.ret (.bool true)) ∧ OldK s₁.heap s'.heap ∧ s'.os = s₁.os ∧ AllBare s'.gens) s₁ := by
  have rv := vals_ints hi
  -- the script, tracked as frozen unless it is the module's own
  let fz : HO := .frz { cls := .type "list", data := .seq vs.toArray } (.lst (ns.map V.int))
  let H : Hp := fun b => if b = a ∧ K.lookup a = none then some fz else none
  have hH : ∀ b u, H b = some u → b = a ∧ K.lookup a = none ∧ u = fz := fun b u q => by
    have q : (if b = a ∧ K.lookup a = none then some fz else none) = some u := q
    split at q
    · rename_i c
      exact ⟨c.1, c.2, (Option.some.inj q).symm⟩
    · cases q
  have only : Only H := fun b => by
    cases q : H b with
    | none => exact .inl rfl
    | some u => exact .inr ⟨_, _, by rw [(hH b u q).2.2]⟩
  have hS : SqL K H a (ns.map V.int) := by
    cases q : K.lookup a with
    | none => exact .inl (.inr ⟨_, if_pos ⟨rfl, q⟩⟩)
    | some o =>
      have e := KX a o q
      rw [ha] at e
      cases e
      exact .inr ⟨_, vs.toArray, _, q, rfl, rfl, rfl, by rw [List.size_toArray, hi.length]; exact hl, by simpa using rv⟩
  have hok : HOk P w H s₁.heap := fun b u q => by
    obtain ⟨rfl, _, rfl⟩ := hH b u q
    exact ⟨ha, by rw [List.length_map]; exact hl, vs, _, rv, ha⟩
  have offDict : ∀ {b : Addr} {o : Obj} {es : Array DictEntry} {ep : Nat}, s₁.heap.get? b = some o → o.data = .dict es ep → H b = none := fun {b o es ep} e d => by
    cases q : H b with
    | none => rfl
    | some u =>
      obtain ⟨rfl, _⟩ := hH b u q
      rw [ha] at e
      cases e
      have d' : Data.seq vs.toArray _ = Data.dict es ep := d
      cases d'
  have nsB : ∀ {b : Addr} {m : Str → Option Value}, s₁.heap.Ns b m → (hidT s₁.heap H).Ns b m := fun {b m} ⟨o, es, ep, e, d, r⟩ => ⟨o, es, ep, hidT_get e (offDict e d), d, r⟩
  have kinB : K.In (hidT s₁.heap H) := fun b o e => hidT_get (KX b o e) (by
    cases q : H b with
    | none => rfl
    | some u =>
      obtain ⟨rfl, q2, _⟩ := hH b u q
      rw [q2] at e
      cases e)
  have md : Mod K mg (hidT s₁.heap H) := ⟨kinB, nsB hns, ⟨mb, nsB hb, hbb⟩, let ⟨mc, h1, h2⟩ := hlim; ⟨mc, nsB h1, h2⟩⟩
  have e0 : Env0 P w K mg (hidT s₁.heap H) callerA [] s₁ H := ⟨rfl, md, fun b o e => of_hidT e, Nat.le_of_eq (hidT_size _ _), trivial, fun b hb => absurd (show b ∈ ([] : List Addr) from hb) (by simp), hok, .of_eq hg⟩
  refine codeAny_mono ((F _ kinB (nsB hns)).run callerA [] s₁ H ⟨[.ref a], []⟩ [.ref a] [.ref a] _ _ rfl hr e0 (hbind s₁ (.ref a)) (.cons rfl .nil) (hsp H only hS)) fun r s' h => ?_
  cases r with
  | error e => exact False.elim h
  | ok fl =>
    cases fl with
    | next => exact False.elim h
    | brk => exact False.elim h
    | cont => exact False.elim h
    | ret u =>
      obtain ⟨v, H', os, bare, un, hok', r', q⟩ := h
      have q' : v = .bl true := q
      subst q'
      obtain rfl : u = Value.bool true := r'
      refine ⟨rfl, OldK.of_keep fun b o e => ?_, os, bare⟩
      cases q : H b with
      | none => exact un.keep b o e q (by intro y; exact absurd (show b ∈ ([] : List Addr) from y) (by simp)) (by simp)
      | some u =>
        obtain ⟨rfl, _, rfl⟩ := hH b u q
        obtain ⟨e2, _⟩ := hok' b _ (un.frzs b _ _ q)
        rw [ha] at e
        cases e
        exact e2
theorem walkG {l : PySem.W.OpenLaw} {n k : Nat} {q : Program} {loose : List Str} {XP : (Str → Option Value) → Heap → Prop} {YP : World → Heap → Prop} {d : DefRec} {K : Params → PySem.W.Frag} {sp : PySem.W.Frag → Sp} {x : Str}
    (hn : l.most = some n) (hn2 : n ≤ sizeLine) (hdf : d.params.defaults = []) (hr : Room k callerA) (hY : ∀ (w : World) (h : Heap), YP w h → (K w.params).In h)
    (F : ∀ (w : World) (mg : Str → Option Value) (fa : Addr) (h : Heap), (K w.params).In h → h.Ns mainGlobals mg → mg d.name = some (.ref fa) →
      ∃ fd : FuncData, (∀ (s : Shared) (u : Value), BindsTo s fd ⟨[u], []⟩ [(x, u)]) ∧ ∀ base : Heap, (K w.params).In base → base.Ns mainGlobals mg → FnG l.prog w (K w.params) mg base CX0 k fa fd [x] (sp (K w.params)))
    (hsp : ∀ (K : PySem.W.Frag) (H : Hp) (a : Addr) (ns : List Int), ns.length ≤ n → Only H → SqL K H a (ns.map V.int) → sp K [.ref a] H (fun v _ => v = .bl true) fun _ _ _ => False) :
    PySem.W.WalkO q loose XP YP l.row.toRowW d [] (fun f vs => PySem.call f vs) := by
  refine Att.attach_call hn hdf fun w s₀ s₁ mg mb fa o pm cd doc a vs ns G Y ho hd hcd hmg hobj hints hlen hg => ?_
  have KX := hY w _ Y
  obtain ⟨fd, hb, hF⟩ := F w mg fa _ KX G.T.g hmg
  exact lawG KX G.T.g G.T.b G.T.builtins G.T.nolimit hg hobj hints (Nat.le_trans hlen hn2) hr hF hb (fun H hO hS => hsp _ H a ns hlen hO hS)

/-! ### repr of data -/
def kpy : Key → PyData
  | .inl i => .int i
  | .inr x => .str x
mutual
/-- data of the library's, without instances and exceptions -/
def py : D → PyData
  | .non => .none
  | .bl b => .bool b
  | .int i => .int i
  | .str x => .str x
  | .lst xs => .list (pyA xs)
  | .tup xs => .tuple (pyA xs)
  | .dct kvs => .dict (pyK kvs)
  | _ => .none
def pyA : List D → List PyData
  | [] => []
  | d :: ds => py d :: pyA ds
def pyK : List (Key × D) → List (PyData × PyData)
  | [] => []
  | (k, d) :: ds => (kpy k, py d) :: pyK ds
end
mutual
def isPy : D → Bool
  | .non | .bl _ | .int _ | .str _ => true
  | .lst xs | .tup xs => isPyA xs
  | .dct kvs => isPyK kvs
  | _ => false
def isPyA : List D → Bool
  | [] => true
  | d :: ds => isPy d && isPyA ds
def isPyK : List (Key × D) → Bool
  | [] => true
  | (_, d) :: ds => isPy d && isPyK ds
end
end PD

set_option Elab.async false
set_option linter.all false
set_option maxRecDepth 100000
set_option maxHeartbeats 4000000
/-! PD5: repr of data. -/
namespace PD
open PySem PySem.Spec PyProof.Rows L2
mutual
def dp : D → Nat
  | .lst xs | .tup xs => dpA xs + 1
  | .dct kvs => dpK kvs + 1
  | _ => 0
def dpA : List D → Nat
  | [] => 0
  | d :: ds => max (dp d) (dpA ds)
def dpK : List (Key × D) → Nat
  | [] => 0
  | (_, d) :: ds => max (dp d) (dpK ds)
end
section
variable {z : Option Addr} {H : Hp}
mutual
theorem R.inj : ∀ (d e : D) (v : V), isPy d = true → isPy e = true → R z H v d → R z H v e → d = e
  | .non, e, _, _, he, h, g => by cases h; cases g <;> first | rfl | (simp [isPy] at he)
  | .bl _, e, _, _, he, h, g => by cases h; cases g <;> first | rfl | (simp [isPy] at he)
  | .int _, e, _, _, he, h, g => by cases h; cases g <;> first | rfl | (simp [isPy] at he)
  | .str _, e, _, _, he, h, g => by cases h; cases g <;> first | rfl | (simp [isPy] at he)
  | .ty _, _, _, hd, _, _, _ => by simp [isPy] at hd
  | .pot, _, _, hd, _, _, _ => by simp [isPy] at hd
  | .raw _, _, _, hd, _, _, _ => by simp [isPy] at hd
  | .obj _ _, _, _, hd, _, _, _ => by simp [isPy] at hd
  | .exc _ _, _, _, hd, _, _, _ => by simp [isPy] at hd
  | .lst ds, e, _, hd, he, h, g => by
    cases h with
    | lst h1 h2 =>
      cases g with
      | raw => simp [isPy] at he
      | pot => simp [isPy] at he
      | lst g1 g2 =>
        rw [h1] at g1
        cases g1
        rw [RA.inj ds _ _ (by simpa [isPy] using hd) (by simpa [isPy] using he) h2 g2]
      | tup g1 => rw [h1] at g1; cases g1
      | dct g1 => rw [h1] at g1; cases g1
      | obj g1 => rw [h1] at g1; cases g1
      | exc g1 => simp [isPy] at he
      | exc0 g1 => simp [isPy] at he
  | .tup ds, e, _, hd, he, h, g => by
    cases h with
    | tup h1 h2 =>
      cases g with
      | raw => simp [isPy] at he
      | pot => simp [isPy] at he
      | lst g1 => rw [h1] at g1; cases g1
      | tup g1 g2 =>
        rw [h1] at g1
        cases g1
        rw [RA.inj ds _ _ (by simpa [isPy] using hd) (by simpa [isPy] using he) h2 g2]
      | dct g1 => rw [h1] at g1; cases g1
      | obj g1 => rw [h1] at g1; cases g1
      | exc g1 => simp [isPy] at he
      | exc0 g1 => simp [isPy] at he
  | .dct ds, e, _, hd, he, h, g => by
    cases h with
    | dct h1 h2 =>
      cases g with
      | raw => simp [isPy] at he
      | pot => simp [isPy] at he
      | lst g1 => rw [h1] at g1; cases g1
      | tup g1 => rw [h1] at g1; cases g1
      | dct g1 g2 =>
        rw [h1] at g1
        cases g1
        rw [RK.inj ds _ _ (by simpa [isPy] using hd) (by simpa [isPy] using he) h2 g2]
      | obj g1 => rw [h1] at g1; cases g1
      | exc g1 => simp [isPy] at he
      | exc0 g1 => simp [isPy] at he
theorem RA.inj : ∀ (ds es : List D) (vs : List V), isPyA ds = true → isPyA es = true → RA z H vs ds → RA z H vs es → ds = es
  | [], es, _, _, _, h, g => by cases h; cases g; rfl
  | d :: ds, es, _, hd, he, h, g => by
    cases h with
    | cons h1 h2 =>
      cases g with
      | cons g1 g2 =>
        simp only [isPyA, Bool.and_eq_true] at hd he
        rw [R.inj d _ _ hd.1 he.1 h1 g1, RA.inj ds _ _ hd.2 he.2 h2 g2]
theorem RK.inj : ∀ (ds es : List (Key × D)) (vs : List (Key × V)), isPyK ds = true → isPyK es = true → RK z H vs ds → RK z H vs es → ds = es
  | [], es, _, _, _, h, g => by cases h; cases g; rfl
  | (k, d) :: ds, es, _, hd, he, h, g => by
    cases h with
    | cons h1 h2 =>
      cases g with
      | cons g1 g2 =>
        simp only [isPyK, Bool.and_eq_true] at hd he
        rw [R.inj d _ _ hd.1 he.1 h1 g1, RK.inj ds _ _ hd.2 he.2 h2 g2]
end
/-- the places below: each stands for data that is no deeper -/
def Below (z : Option Addr) (H : Hp) (n : Nat) (bs : List Addr) : Prop := ∀ b ∈ bs, ∃ d, isPy d = true ∧ R z H (.ref b) d ∧ dp d ≤ n
theorem Below.le {n m : Nat} {bs : List Addr} (h : Below z H n bs) (l : n ≤ m) : Below z H m bs := fun b hb => by
  obtain ⟨d, h1, h2, h3⟩ := h b hb
  exact ⟨d, h1, h2, Nat.le_trans h3 l⟩
theorem Below.app {n : Nat} {bs cs : List Addr} (h : Below z H n bs) (g : Below z H n cs) : Below z H n (bs ++ cs) := fun b hb => (List.mem_append.mp hb).elim (h b) (g b)
theorem Below.not {n : Nat} {bs : List Addr} {a : Addr} {d : D} (h : Below z H n bs) (hp : isPy d = true) (r : R z H (.ref a) d) (l : n < dp d) : a ∉ bs := fun hb => by
  obtain ⟨e, h1, h2, h3⟩ := h a hb
  rw [R.inj d e _ hp h1 r h2] at l
  omega
theorem Below.cons {n : Nat} {bs : List Addr} {a : Addr} {d : D} (h : Below z H n bs) (hp : isPy d = true) (r : R z H (.ref a) d) (l : n ≤ dp d) : Below z H (dp d) (a :: bs) := fun b hb => by
  rcases List.mem_cons.mp hb with rfl | hb
  · exact ⟨d, hp, r, Nat.le_refl _⟩
  · exact h.le l b hb
end
section
variable {X : Cx} {pins : List (Addr × Obj)} {σ : L2.St} {H : Hp} {s : Shared} {z : Option Addr}
theorem key_repr {prog : Program} {w : World} {k : Key} {u : Value} (h : keyIs k u = true) (hs : (kpy k).showable = true) (hz : (kpy k).shown.length ≤ sizeLine) : ReprIs prog w u (kpy k).shown := by
  rcases keyIs_shape h with ⟨i, t, rfl, rfl⟩ | ⟨y, t, rfl, rfl⟩
  · simp only [kpy, PyData.shown]
    exact ReprIs.int t (by simpa [kpy, PyData.showable] using hs)
  · simp only [kpy, PyData.shown]
    exact ReprIs.str y t (by simpa only [kpy, PyData.shown] using hz)
mutual
theorem R.reprs (I : Inv X pins σ H s) : ∀ (d : D) (v : V) (u : Value), isPy d = true → R z H v d → RelV v u → (py d).showable = true → (py d).shown.length ≤ sizeLine →
    ∃ bs, Below z H (dp d) bs ∧ ReprK X.prog X.w bs s.heap (dp d) u (py d).shown
  | .non, _, _, _, h, r, _, _ => by
    cases h; cases r
    exact ⟨[], (fun _ h => nomatch h), by simp only [py, PyData.shown]; exact .of_is ReprIs.none _ _ _⟩
  | .bl b, _, _, _, h, r, _, _ => by
    cases h; cases r
    exact ⟨[], (fun _ h => nomatch h), by simp only [py, PyData.shown]; exact .of_is (ReprIs.bool b) _ _ _⟩
  | .int i, _, _, _, h, r, hs, _ => by
    cases h
    obtain ⟨t, rfl⟩ := r
    exact ⟨[], (fun _ h => nomatch h), by simp only [py, PyData.shown]; exact .of_is (ReprIs.int t (by simpa [py, PyData.showable] using hs)) _ _ _⟩
  | .str x, _, _, _, h, r, _, hz => by
    cases h
    obtain ⟨t, rfl⟩ := r
    exact ⟨[], (fun _ h => nomatch h), by simp only [py, PyData.shown]; exact .of_is (ReprIs.str x t (by simpa only [py, PyData.shown] using hz)) _ _ _⟩
  | .ty _, _, _, hp, _, _, _, _ => by simp [isPy] at hp
  | .pot, _, _, hp, _, _, _, _ => by simp [isPy] at hp
  | .raw _, _, _, hp, _, _, _, _ => by simp [isPy] at hp
  | .obj _ _, _, _, hp, _, _, _, _ => by simp [isPy] at hp
  | .exc _ _, _, _, hp, _, _, _, _ => by simp [isPy] at hp
  | .lst ds, _, _, hp, h, r, hs, hz => by
    have h0 := h
    cases h with
    | @lst a xs _ h1 h2 =>
      cases r
      have hz' : (listText (PyData.shownAll (pyA ds))).length ≤ sizeLine := by simpa only [py, PyData.shown] using hz
      obtain ⟨_, its, n, rv, ho⟩ := I.hok a _ h1
      obtain ⟨bs, hb, hk⟩ := RA.reprs I ds xs its (by simpa [isPy] using hp) h2 rv (by simpa [py, PyData.showable] using hs) (fun t ht => Nat.le_trans (listText_mem_le ht) hz')
      have hna : a ∉ bs := hb.not hp h0 (by simp only [dp]; omega)
      refine ⟨a :: bs, hb.cons hp h0 (by simp only [dp]; omega), ?_⟩
      simp only [dp, py, PyData.shown]
      cases its with
      | nil =>
        cases rv
        cases h2
        simp only [pyA, PyData.shownAll, listText_nil]
        exact ReprK.listEmpty ho rfl rfl
      | cons x l => exact ReprK.list ho rfl rfl hna (by simpa using hk.length_eq) (fun i y e => hk.item i y (by simpa using e))
  | .tup ds, _, _, hp, h, r, hs, hz => by
    have h0 := h
    cases h with
    | @tup a xs _ h1 h2 =>
      cases r
      have hz' : (tupleText (PyData.shownAll (pyA ds))).length ≤ sizeLine := by simpa only [py, PyData.shown] using hz
      obtain ⟨_, its, rv, o, ho, hc, n, hd⟩ := I.hok a _ h1
      obtain ⟨bs, hb, hk⟩ := RA.reprs I ds xs its (by simpa [isPy] using hp) h2 rv (by simpa [py, PyData.showable] using hs) (fun t ht => Nat.le_trans (tupleText_mem_le ht) hz')
      have hna : a ∉ bs := hb.not hp h0 (by simp only [dp]; omega)
      refine ⟨a :: bs, hb.cons hp h0 (by simp only [dp]; omega), ?_⟩
      simp only [dp, py, PyData.shown]
      exact ReprK.tuple ho hc hd hna (by simpa using hk)
  | .dct ds, _, _, hp, h, r, hs, hz => by
    have h0 := h
    cases h with
    | @dct a xs _ h1 h2 =>
      cases r
      have hz' : (dictText (PyData.shownKv (pyK ds))).length ≤ sizeLine := by simpa only [py, PyData.shown] using hz
      obtain ⟨_, hsys, vs, rv, o, es, ep, ho, hx, hd, _, prs, _⟩ := I.hok a _ h1
      obtain ⟨bs, hb, hk⟩ := RK.reprs I ds xs vs es.toList (by simpa [isPy] using hp) h2 rv prs (by simpa [py, PyData.showable] using hs) (fun t ht => Nat.le_trans (dictText_mem_le ht) hz')
      have hna : a ∉ bs := hb.not hp h0 (by simp only [dp]; omega)
      refine ⟨a :: bs, hb.cons hp h0 (by simp only [dp]; omega), ?_⟩
      simp only [dp, py, PyData.shown]
      exact ReprK.dict ho hx.1 hd hsys hna hk
theorem RA.reprs (I : Inv X pins σ H s) : ∀ (ds : List D) (vs : List V) (us : List Value), isPyA ds = true → RA z H vs ds → Vals vs us → PyData.showableAll (pyA ds) = true → (∀ t ∈ PyData.shownAll (pyA ds), t.length ≤ sizeLine) →
    ∃ bs, Below z H (dpA ds) bs ∧ ReprAllK X.prog X.w bs s.heap (dpA ds) us (PyData.shownAll (pyA ds))
  | [], _, _, _, h, r, _, _ => by
    cases h; cases r
    exact ⟨[], (fun _ h => nomatch h), by simp only [pyA, PyData.shownAll]; exact .nil⟩
  | d :: ds, _, _, hp, h, r, hs, hz => by
    cases h with
    | cons h1 h2 =>
      cases r with
      | cons r1 r2 =>
        simp only [isPyA, Bool.and_eq_true] at hp
        simp only [pyA, PyData.showableAll, Bool.and_eq_true] at hs
        obtain ⟨b1, hb1, k1⟩ := R.reprs I d _ _ hp.1 h1 r1 hs.1 (hz _ (by simp only [pyA, PyData.shownAll]; exact List.mem_cons_self ..))
        obtain ⟨b2, hb2, k2⟩ := RA.reprs I ds _ _ hp.2 h2 r2 hs.2 (fun t ht => hz t (by simp only [pyA, PyData.shownAll]; exact List.mem_cons_of_mem _ ht))
        refine ⟨b1 ++ b2, (hb1.le (by simp only [dpA]; exact Nat.le_max_left ..)).app (hb2.le (by simp only [dpA]; exact Nat.le_max_right ..)), ?_⟩
        simp only [dpA, pyA, PyData.shownAll]
        exact .cons ((k1.more fun b hb => List.mem_append_left _ hb).level_le (Nat.le_max_left ..)) (k2.more_le (fun b hb => List.mem_append_right _ hb) (Nat.le_max_right ..))
theorem RK.reprs (I : Inv X pins σ H s) : ∀ (ds : List (Key × D)) (xs : List (Key × V)) (vs : List (Key × Value)) (es : List DictEntry), isPyK ds = true → RK z H xs ds → KV xs vs → Pairs (mixKind X.prog X.w) es vs → PyData.showableKv (pyK ds) = true → (∀ t ∈ PyData.shownKv (pyK ds), t.length ≤ sizeLine) →
    ∃ bs, Below z H (dpK ds) bs ∧ ReprEntriesK X.prog X.w bs s.heap (dpK ds) es (PyData.shownKv (pyK ds))
  | [], _, _, _, _, h, r, p, _, _ => by
    cases h; cases r; cases p
    exact ⟨[], (fun _ h => nomatch h), by simp only [pyK, PyData.shownKv]; exact .nil⟩
  | (k, d) :: ds, _, _, _, hp, h, r, p, hs, hz => by
    cases h with
    | @cons _ v _ _ _ h1 h2 =>
      cases r with
      | cons r1 r2 =>
        cases p with
        | @cons e kv es kvs p1 p2 p3 =>
          simp only [isPyK, Bool.and_eq_true] at hp
          simp only [pyK] at hs hz ⊢
          simp only [PyData.showableKv, Bool.and_eq_true] at hs
          have hz0 := hz _ (by simp only [PyData.shownKv]; exact List.mem_cons_self ..)
          rw [strLen_append, strLen_append] at hz0
          have rv : RelV v e.val := by rw [p2]; exact r1.2
          obtain ⟨b1, hb1, k1⟩ := R.reprs I d _ _ hp.1 h1 rv hs.1.2 (by omega)
          obtain ⟨b2, hb2, k2⟩ := RK.reprs I ds _ _ _ hp.2 h2 r2 p3 hs.2 (fun t ht => hz t (by simp only [PyData.shownKv]; exact List.mem_cons_of_mem _ ht))
          have hk : keyIs k e.key = true := by
            have q : keyIs _ e.key = true := p1
            rw [← r1.1] at q
            exact q
          refine ⟨b1 ++ b2, (hb1.le (by simp only [dpK]; exact Nat.le_max_left ..)).app (hb2.le (by simp only [dpK]; exact Nat.le_max_right ..)), ?_⟩
          simp only [dpK, PyData.shownKv]
          refine .cons (.of_is (key_repr hk hs.1.1 (by omega)) _ _ _) ((k1.more fun b hb => List.mem_append_left _ hb).level_le (Nat.le_max_left ..)) ?_
          exact more_entries (fun b hb => List.mem_append_right _ hb) (Nat.le_max_right ..) k2
theorem more_entries {prog : Program} {w : World} {h₀ : Heap} {as as' : List Addr} {d d' : Nat} (hs : ∀ b ∈ as, b ∈ as') (hd : d ≤ d') : ∀ {es : List DictEntry} {ps : List Str}, ReprEntriesK prog w as h₀ d es ps → ReprEntriesK prog w as' h₀ d' es ps
  | [], _, h => by cases h; exact .nil
  | _ :: es, _, h => by cases h with | cons h1 h2 h3 => exact .cons ((h1.more hs).level_le hd) ((h2.more hs).level_le hd) (more_entries hs hd h3)
end
/-- repr(x), x data, where no repr is under way -/
def rRepr : List V → Hp → VK → Prop := fun xs H Q => ∃ (x : V) (d : D), xs = [x] ∧ isPy d = true ∧ R none H x d ∧ (py d).showable = true ∧ (py d).shown.length ≤ sizeLine ∧ dp d ≤ 60 ∧ Q (.str (py d).shown) H
end
end PD

set_option Elab.async false
set_option linter.all false
set_option maxRecDepth 100000
set_option maxHeartbeats 4000000
/-! PD6: repr called; operators, built-ins by data. -/
namespace PD
open PySem PySem.Spec PyProof.Rows L2
section
variable {X : Cx}
theorem call_reprD (hg : X.A.guards = some []) (hu : X.A.units + 64 < cLine) : CallR X (.builtin "repr") rRepr := by
  intro pins s σ H xs us Q I r h
  obtain ⟨x, d, rfl, hp, rd, hs, hz, hd, q⟩ := h
  cases r with
  | cons rx rr =>
    cases rr
    have key : ∀ h' tk (m : Str) (t : Tok), (∀ b o, s.heap.get? b = some o → h'.get? b = some o) → m = (py d).shown → EP X pins σ Q (.str m t) { s with heap := h', toks := tk } := fun h' tk m t k e => by
      subst e
      exact ⟨.str _, H, I.kept (t' := tk) k, ⟨t, rfl⟩, q⟩
    cases d with
    | non => cases rd; cases rx; exact PySem.P.repr_of_none (key _ _ _ _ (fun _ _ e => e) (by simp only [py, PyData.shown]))
    | bl b => cases rd; cases rx; exact PySem.P.repr_of_bool (key _ _ _ _ (fun _ _ e => e) (by simp only [py, PyData.shown]))
    | int i => cases rd; obtain ⟨t, rfl⟩ := rx; exact PySem.P.repr_of_int (by simpa [py, PyData.showable] using hs) (key _ _ _ _ (fun _ _ e => e) (by simp only [py, PyData.shown]))
    | str y => cases rd; obtain ⟨t, rfl⟩ := rx; exact PySem.P.repr_of_str (key _ _ _ _ (fun _ _ e => e) (by simp only [py, PyData.shown])) (by simpa only [py, PyData.shown] using hz)
    | ty _ => simp [isPy] at hp
    | pot => simp [isPy] at hp
    | raw _ => simp [isPy] at hp
    | obj _ _ => simp [isPy] at hp
    | exc _ _ => simp [isPy] at hp
    | lst ds =>
      have rd0 := rd
      cases rd with
      | @lst a xs _ h1 h2 =>
        cases rx
        have hz' : (listText (PyData.shownAll (pyA ds))).length ≤ sizeLine := by simpa only [py, PyData.shown] using hz
        obtain ⟨_, its, n, rv, ho⟩ := I.hok a _ h1
        obtain ⟨bs, hb, hk⟩ := RA.reprs I ds xs its (by simpa [isPy] using hp) h2 rv (by simpa [py, PyData.showable] using hs) (fun t ht => Nat.le_trans (listText_mem_le ht) hz')
        have hna : a ∉ bs := hb.not hp rd0 (by simp only [dp]; omega)
        simp only [dp] at hd
        refine call_repr_slot (by omega) ⟨_, ho, rfl⟩ F.slot_list_repr.toG ?_
        cases its with
        | nil =>
          cases rv
          cases h2
          exact call_list_repr_empty ⟨_, ho, rfl⟩ ho rfl ⟨_, _, rfl, key _ _ _ _ (fun _ _ e => e) (by simp only [py, pyA, PyData.shown, PyData.shownAll, listText_nil])⟩
        | cons x l =>
          exact call_list_reprK ho rfl rfl hna (by simpa using hk.length_eq) (fun i y e => hk.item i y (by simpa using e)) hg (fun b _ => Clear.nil b) (by show X.A.units + 1 + _ < _; omega) (fun _ _ e => e)
            (fun h' u tk k => ⟨_, _, rfl, key _ _ _ _ k (by simp only [py, PyData.shown])⟩) hz'
    | tup ds =>
      have rd0 := rd
      cases rd with
      | @tup a xs _ h1 h2 =>
        cases rx
        have hz' : (tupleText (PyData.shownAll (pyA ds))).length ≤ sizeLine := by simpa only [py, PyData.shown] using hz
        obtain ⟨_, its, rv, o, ho, hc, n, hdt⟩ := I.hok a _ h1
        obtain ⟨bs, hb, hk⟩ := RA.reprs I ds xs its (by simpa [isPy] using hp) h2 rv (by simpa [py, PyData.showable] using hs) (fun t ht => Nat.le_trans (tupleText_mem_le ht) hz')
        have hna : a ∉ bs := hb.not hp rd0 (by simp only [dp]; omega)
        simp only [dp] at hd
        refine call_repr_slot (by omega) ⟨_, ho, hc⟩ F.slot_tuple_repr ?_
        exact call_tuple_reprK ho hc hdt hna (by simpa using hk) hg (fun b _ => Clear.nil b) (by show X.A.units + 1 + _ < _; omega) (fun _ _ e => e)
          (fun h' u tk k => ⟨_, _, rfl, key _ _ _ _ k (by simp only [py, PyData.shown])⟩) hz'
    | dct ds =>
      have rd0 := rd
      cases rd with
      | @dct a xs _ h1 h2 =>
        cases rx
        have hz' : (dictText (PyData.shownKv (pyK ds))).length ≤ sizeLine := by simpa only [py, PyData.shown] using hz
        obtain ⟨_, hsys, vs, rv, o, es, ep, ho, hx, hdt, _, prs, _⟩ := I.hok a _ h1
        obtain ⟨bs, hb, hk⟩ := RK.reprs I ds xs vs es.toList (by simpa [isPy] using hp) h2 rv prs (by simpa [py, PyData.showable] using hs) (fun t ht => Nat.le_trans (dictText_mem_le ht) hz')
        have hna : a ∉ bs := hb.not hp rd0 (by simp only [dp]; omega)
        simp only [dp] at hd
        refine call_repr_slot (by omega) ⟨_, ho, hx.1⟩ F.slot_dict_repr ?_
        exact call_dict_reprK ho hx.1 hdt hsys hna hk hg (fun b _ => Clear.nil b) (by show X.A.units + 1 + _ < _; omega) (fun _ _ e => e)
          (fun h' u tk k => ⟨_, _, rfl, key _ _ _ _ k (by simp only [py, PyData.shown])⟩) hz'
end
mutual
/-- what is plain data stands for the same in any larger view -/
theorem R.plain {z z' : Option Addr} {H : Hp} : ∀ (d : D) (v : V), isPy d = true → R z H v d → R z' H v d
  | .non, _, _, h => by cases h; exact .non
  | .bl _, _, _, h => by cases h; exact .bl _
  | .int _, _, _, h => by cases h; exact .int _
  | .str _, _, _, h => by cases h; exact .str _
  | .ty _, _, hp, _ => by simp [isPy] at hp
  | .pot, _, hp, _ => by simp [isPy] at hp
  | .raw _, _, hp, _ => by simp [isPy] at hp
  | .obj _ _, _, hp, _ => by simp [isPy] at hp
  | .exc _ _, _, hp, _ => by simp [isPy] at hp
  | .lst ds, _, hp, h => by cases h with | lst h1 h2 => exact .lst h1 (RA.plain ds _ (by simpa [isPy] using hp) h2)
  | .tup ds, _, hp, h => by cases h with | tup h1 h2 => exact .tup h1 (RA.plain ds _ (by simpa [isPy] using hp) h2)
  | .dct ds, _, hp, h => by cases h with | dct h1 h2 => exact .dct h1 (RK.plain ds _ (by simpa [isPy] using hp) h2)
theorem RA.plain {z z' : Option Addr} {H : Hp} : ∀ (ds : List D) (vs : List V), isPyA ds = true → RA z H vs ds → RA z' H vs ds
  | [], _, _, h => by cases h; exact .nil
  | d :: ds, _, hp, h => by
    simp only [isPyA, Bool.and_eq_true] at hp
    cases h with | cons h1 h2 => exact .cons (R.plain d _ hp.1 h1) (RA.plain ds _ hp.2 h2)
theorem RK.plain {z z' : Option Addr} {H : Hp} : ∀ (ds : List (Key × D)) (vs : List (Key × V)), isPyK ds = true → RK z H vs ds → RK z' H vs ds
  | [], _, _, h => by cases h; exact .nil
  | (k, d) :: ds, _, hp, h => by
    simp only [isPyK, Bool.and_eq_true] at hp
    cases h with | cons h1 h2 => exact .cons (R.plain d _ hp.1 h1) (RK.plain ds _ hp.2 h2)
end
mutual
theorem R.dp {K : PySem.W.Frag} {z : Option Addr} {H : Hp} : ∀ (d : D) (v : V), isPy d = true → (py d).canLay0 = true → R z H v d → Dp K H v (py d)
  | .non, _, _, _, h => by cases h; simp only [py]; exact .non
  | .bl _, _, _, _, h => by cases h; simp only [py]; exact .bl _
  | .int _, _, _, _, h => by cases h; simp only [py]; exact .int _
  | .str _, _, _, _, h => by cases h; simp only [py]; exact .str _
  | .ty _, _, hp, _, _ => by simp [isPy] at hp
  | .pot, _, hp, _, _ => by simp [isPy] at hp
  | .raw _, _, hp, _, _ => by simp [isPy] at hp
  | .obj _ _, _, hp, _, _ => by simp [isPy] at hp
  | .exc _ _, _, hp, _, _ => by simp [isPy] at hp
  | .lst ds, _, hp, hc, h => by cases h with | lst h1 h2 => simp only [py]; exact .lst (.inl (.inl h1)) (RA.dp ds _ (by simpa [isPy] using hp) (by simpa [py, PyData.canLay0] using hc) h2)
  | .tup ds, _, hp, hc, h => by cases h with | tup h1 h2 => simp only [py]; exact .tup (.inl (.inl h1)) (RA.dp ds _ (by simpa [isPy] using hp) (by simpa [py, PyData.canLay0] using hc) h2)
  | .dct ds, _, _, hc, _ => by simp [py, PyData.canLay0] at hc
theorem RA.dp {K : PySem.W.Frag} {z : Option Addr} {H : Hp} : ∀ (ds : List D) (vs : List V), isPyA ds = true → PyData.canLayAll0 (pyA ds) = true → RA z H vs ds → DpAll K H vs (pyA ds)
  | [], _, _, _, h => by cases h; simp only [pyA]; exact .nil
  | d :: ds, _, hp, hc, h => by
    simp only [isPyA, Bool.and_eq_true] at hp
    simp only [pyA, PyData.canLayAll0, Bool.and_eq_true] at hc
    cases h with | cons h1 h2 => simp only [pyA]; exact .cons (R.dp d _ hp.1 hc.1 h1) (RA.dp ds _ hp.2 hc.2 h2)
end

/-! ### operators -/
def dv : V → D
  | .non => .non
  | .bl b => .bl b
  | .int i => .int i
  | .str x => .str x
  | .ty n => .ty n
  | v => .raw v
theorem r_dv {z : Option Addr} {H : Hp} : ∀ v : V, R z H v (dv v)
  | .non => .non
  | .bl _ => .bl _
  | .int _ => .int _
  | .str _ => .str _
  | .ty _ => .ty _
  | .byt _ => .raw _
  | .flt _ => .raw _
  | .ref _ => .raw _
section
variable {z : Option Addr} {P : D → Prop} {K : PySem.W.Frag}
theorem o_I0 {g : Int → Int → V} {d e : D} (h : ∃ i j, d = .int i ∧ e = .int j ∧ P (dv (g i j))) : O2 z (rI0 g) d e P := fun hs x y H p rx ry Q w => by
  obtain ⟨i, j, rfl, rfl, q⟩ := h
  cases rx; cases ry
  exact ⟨i, j, rfl, rfl, w.here p (r_dv _) q⟩
theorem o_I {C : Int → Int → Prop} {g : Int → Int → V} {d e : D} (h : ∃ i j, d = .int i ∧ e = .int j ∧ C i j ∧ P (dv (g i j))) : O2 z (rI C g) d e P := fun hs x y H p rx ry Q w => by
  obtain ⟨i, j, rfl, rfl, c, q⟩ := h
  cases rx; cases ry
  exact ⟨i, j, rfl, rfl, c, w.here p (r_dv _) q⟩
theorem o_eqI {i j : Int} (q : P (.bl (decide (i = j)))) : O2 z rEq (.int i) (.int j) P := fun hs x y H p rx ry Q w => by
  cases rx; cases ry
  refine ⟨rfl, w.here p (.bl _) ?_⟩
  have e : decide (V.int i = V.int j) = decide (i = j) := decide_eq_decide.mpr ⟨V.int.inj, congrArg V.int⟩
  rw [e]
  exact q
theorem o_neI {i j : Int} (q : P (.bl (!decide (i = j)))) : O2 z rNe (.int i) (.int j) P := fun hs x y H p rx ry Q w => by
  cases rx; cases ry
  refine ⟨rfl, w.here p (.bl _) ?_⟩
  have e : decide (V.int i = V.int j) = decide (i = j) := decide_eq_decide.mpr ⟨V.int.inj, congrArg V.int⟩
  rw [e]
  exact q
theorem o_eqS {i j : Str} (q : P (.bl (decide (i = j)))) : O2 z rEq (.str i) (.str j) P := fun hs x y H p rx ry Q w => by
  cases rx; cases ry
  refine ⟨rfl, w.here p (.bl _) ?_⟩
  have e : decide (V.str i = V.str j) = decide (i = j) := decide_eq_decide.mpr ⟨V.str.inj, congrArg V.str⟩
  rw [e]
  exact q
theorem o_neS {i j : Str} (q : P (.bl (!decide (i = j)))) : O2 z rNe (.str i) (.str j) P := fun hs x y H p rx ry Q w => by
  cases rx; cases ry
  refine ⟨rfl, w.here p (.bl _) ?_⟩
  have e : decide (V.str i = V.str j) = decide (i = j) := decide_eq_decide.mpr ⟨V.str.inj, congrArg V.str⟩
  rw [e]
  exact q
theorem o_eqD {d e : D} (h1 : isPy d = true) (h2 : isPy e = true) (s1 : SeqAt.shaped (py d) = true) (s2 : SeqAt.shaped (py e) = true) (q : P (.bl (PyData.eqv (py d) (py e)))) : O2 z (rEqD K) d e P := fun hs x y H p rx ry Q w =>
  ⟨_, _, R.dp d x h1 (SeqAt.canLay_of_shaped s1) (R.mono hid_sub _ _ rx), R.dp e y h2 (SeqAt.canLay_of_shaped s2) (R.mono hid_sub _ _ ry), s1, s2, w.here p (.bl _) q⟩
theorem o_neD {d e : D} (h1 : isPy d = true) (h2 : isPy e = true) (s1 : SeqAt.shaped (py d) = true) (s2 : SeqAt.shaped (py e) = true) (q : P (.bl (!PyData.eqv (py d) (py e)))) : O2 z (rNeD K) d e P := fun hs x y H p rx ry Q w =>
  ⟨_, _, R.dp d x h1 (SeqAt.canLay_of_shaped s1) (R.mono hid_sub _ _ rx), R.dp e y h2 (SeqAt.canLay_of_shaped s2) (R.mono hid_sub _ _ ry), s1, s2, w.here p (.bl _) q⟩
theorem o_cat {d e : D} (h : ∃ a b, d = .lst a ∧ e = .lst b ∧ a.length + b.length ≤ sizeLine ∧ P (.lst (a ++ b))) : O2 z rCat d e P := fun hs x y H p rx ry Q w => by
  obtain ⟨a, b, rfl, rfl, hl, q⟩ := h
  cases rx with
  | lst h1 h2 =>
    cases ry with
    | lst g1 g2 => exact ⟨_, _, _, _, rfl, rfl, hid_sub _ _ h1, hid_sub _ _ g1, by rw [h2.length, g2.length]; exact hl, fun l n => new_w w p n (fun H' e1 e2 => .lst e1 ((RA.mono e2 _ _ h2).append (RA.mono e2 _ _ g2))) q⟩
theorem rep_flat {α : Type} (x : α) : ∀ n : Nat, (List.replicate n [x]).flatten = List.replicate n x
  | 0 => rfl
  | n + 1 => by rw [List.replicate_succ, List.flatten_cons, rep_flat x n]; rfl
theorem o_rep1 {d e : D} (h : ∃ (a : D) (k : Nat), d = .lst [a] ∧ e = .int k ∧ k ≤ 100000 ∧ P (.lst (List.replicate k a))) : O2 z rRep d e P := fun hs x y H p rx ry Q w => by
  obtain ⟨a, k, rfl, rfl, hl, q⟩ := h
  cases ry
  cases rx with
  | lst h1 h2 =>
    cases h2 with
    | cons h2 h3 =>
      cases h3
      refine ⟨_, _, _, rfl, rfl, hid_sub _ _ h1, by omega, by omega, ?_, fun l n => ?_⟩
      · rw [Int.toNat_natCast]
        exact Nat.le_trans (by simpa using hl) (by decide)
      · rw [Int.toNat_natCast, rep_flat]
        exact new_w w p n (fun H' e1 e2 => .lst e1 (RA.replicate (R.mono e2 _ _ h2) k)) q
theorem o_ixL {d e : D} (h : ∃ (ds : List D) (i : Int) (v : D), d = .lst ds ∧ e = .int i ∧ atI ds i = some v ∧ P v) : O2 z (rIxL K) d e P := fun hs x y H p rx ry Q w => by
  obtain ⟨ds, i, v, rfl, rfl, hi, q⟩ := h
  cases ry
  cases rx with
  | lst h1 h2 =>
    unfold atI at hi
    obtain ⟨j, hj, hi⟩ := Option.bind_eq_some_iff.mp hi
    obtain ⟨u, hu, r⟩ := h2.get' hi
    refine ⟨_, _, _, u, rfl, rfl, .inl (.inl (hid_sub _ _ h1)), ?_, w.here p r q⟩
    unfold atI
    rw [h2.length, hj, Option.bind_some, hu]
theorem o_ixT {d e : D} (h : ∃ (ds : List D) (i : Int) (v : D), d = .tup ds ∧ e = .int i ∧ atI ds i = some v ∧ P v) : O2 z (rIxT K) d e P := fun hs x y H p rx ry Q w => by
  obtain ⟨ds, i, v, rfl, rfl, hi, q⟩ := h
  cases ry
  cases rx with
  | tup h1 h2 =>
    unfold atI at hi
    obtain ⟨j, hj, hi⟩ := Option.bind_eq_some_iff.mp hi
    obtain ⟨u, hu, r⟩ := h2.get' hi
    refine ⟨_, _, _, u, rfl, rfl, .inl (.inl (hid_sub _ _ h1)), ?_, w.here p r q⟩
    unfold atI
    rw [h2.length, hj, Option.bind_some, hu]
def cutD (ds : List D) (lo hi : Option Int) : List D := (ds.drop (HT.sIx ds.length 0 lo)).take (HT.sIx ds.length ds.length hi - HT.sIx ds.length 0 lo)
theorem o_slL {lo hi : Option Int} {d : D} (h : ∃ ds, d = .lst ds ∧ P (.lst (cutD ds lo hi))) : O1 z (fun x => rSlL K x lo hi) d P := fun hs x H p rx Q w => by
  obtain ⟨ds, rfl, q⟩ := h
  cases rx with
  | lst h1 h2 => exact ⟨_, _, rfl, .inl (.inl (hid_sub _ _ h1)), fun l n => new_w w p n (fun H' e1 e2 => .lst e1 (by
      unfold cutV cutD
      rw [h2.length]
      exact (((RA.mono e2 _ _ h2).drop _).take _))) q⟩
/-- len by data -/
def lenD : D → Option Nat
  | .str x => if x.length ≤ sizeLine then some x.length else none
  | .lst ds => some ds.length
  | .tup ds => some ds.length
  | _ => none
theorem o_len {ds : List D} (h : ∃ d n, ds = [d] ∧ lenD d = some n ∧ P (.int (n : Nat))) : OC z (fun xs H Q => ∃ x n, xs = [x] ∧ LenV K x H n ∧ Q (.int n) H) ds P := fun hs xs H p rs Q w => by
  obtain ⟨d, n, rfl, hn, q⟩ := h
  cases rs with
  | cons r rs =>
    cases rs
    refine ⟨_, n, rfl, ?_, w.here p (.int _) q⟩
    cases d with
    | str x =>
      cases r
      simp only [lenD] at hn
      split at hn
      · exact ⟨by assumption, (Option.some.inj hn).symm⟩
      · cases hn
    | lst es =>
      cases r with
      | lst h1 h2 => exact .inl ⟨_, .inl (.inl (hid_sub _ _ h1)), by rw [h2.length]; exact (Option.some.inj hn).symm⟩
    | tup es =>
      cases r with
      | tup h1 h2 => exact .inr ⟨_, .inl (.inl (hid_sub _ _ h1)), by rw [h2.length]; exact (Option.some.inj hn).symm⟩
    | _ => cases hn
theorem o_repr {ds : List D} (h : ∃ d, ds = [d] ∧ isPy d = true ∧ (py d).showable = true ∧ (py d).shown.length ≤ sizeLine ∧ dp d ≤ 60 ∧ P (.str (py d).shown)) : OC z rRepr ds P := fun hs xs H p rs Q w => by
  obtain ⟨d, rfl, h1, h2, h3, h4, q⟩ := h
  cases rs with
  | cons r rs =>
    cases rs
    exact ⟨_, d, rfl, h1, R.plain d _ h1 (R.mono hid_sub _ _ r), h2, h3, h4, w.here p (.str _) q⟩
theorem o_abs {ds : List D} (h : ∃ i, ds = [.int i] ∧ P (.int (if i < 0 then -i else i))) : OC z (fun xs H Q => ∃ i, xs = [.int i] ∧ Q (.int (if i < 0 then -i else i)) H) ds P := fun hs xs H p rs Q w => by
  obtain ⟨i, rfl, q⟩ := h
  cases rs with
  | cons r rs => cases rs; cases r; exact ⟨i, rfl, w.here p (.int _) q⟩
theorem o_max2 {ds : List D} (h : ∃ i j, ds = [.int i, .int j] ∧ P (.int (if j > i then j else i))) : OC z (fun xs H Q => ∃ i j, xs = [.int i, .int j] ∧ Q (.int (if j > i then j else i)) H) ds P := fun hs xs H p rs Q w => by
  obtain ⟨i, j, rfl, q⟩ := h
  cases rs with
  | cons r rs => cases rs with | cons r2 rs => cases rs; cases r; cases r2; exact ⟨i, j, rfl, w.here p (.int _) q⟩
theorem o_min2 {ds : List D} (h : ∃ i j, ds = [.int i, .int j] ∧ P (.int (if j < i then j else i))) : OC z (fun xs H Q => ∃ i j, xs = [.int i, .int j] ∧ Q (.int (if j < i then j else i)) H) ds P := fun hs xs H p rs Q w => by
  obtain ⟨i, j, rfl, q⟩ := h
  cases rs with
  | cons r rs => cases rs with | cons r2 rs => cases rs; cases r; cases r2; exact ⟨i, j, rfl, w.here p (.int _) q⟩
theorem o_int1 {ds : List D} (h : ∃ i, ds = [.int i] ∧ P (.int i)) : OC z (fun xs H Q => (∃ i, xs = [.int i] ∧ Q (.int i) H) ∨ ∃ k, xs = [.bl k] ∧ Q (.int (if k then 1 else 0)) H) ds P := fun hs xs H p rs Q w => by
  obtain ⟨i, rfl, q⟩ := h
  cases rs with
  | cons r rs => cases rs; cases r; exact .inl ⟨i, rfl, w.here p (.int _) q⟩
theorem ra_bools {H : Hp} {zz : Option Addr} : ∀ (bs : List Bool) (vs : List V), RA zz H vs (bs.map D.bl) → vs = bs.map V.bl
  | [], _, h => by cases h; rfl
  | b :: bs, _, h => by cases h with | cons h1 h2 => cases h1; rw [ra_bools bs _ h2]; rfl
theorem o_all {ds : List D} (h : ∃ bs : List Bool, ds = [.lst (bs.map D.bl)] ∧ P (.bl (bs.all id))) : OC z (rAll K) ds P := fun hs xs H p rs Q w => by
  obtain ⟨bs, rfl, q⟩ := h
  cases rs with
  | cons r rs =>
    cases rs
    cases r with
    | lst h1 h2 => exact ⟨_, bs, rfl, by rw [← ra_bools bs _ h2]; exact .inl (.inl (hid_sub _ _ h1)), w.here p (.bl _) q⟩

/-! ### exceptions -/
/-- what C's __init__ makes of a fresh exception at a: fs the fields in the parameters' order -/
def spXI (C : Addr) (fs : List Str) : Sp := fun vs H Q _ => ∃ a us, vs = .ref a :: us ∧ us.length = fs.length ∧ H a = some (exo a C none) ∧
  ∀ H', (∀ b o, b ≠ a → H b = some o → H' b = some o) → (if fs = [] then H' a = some (exo a C none) else ∃ d, H d = none ∧ H' a = some (exo a C (some d)) ∧ H' d = some (exd d (fs.zip us).reverse)) → Q .non H'
theorem rf_zip {zz : Option Addr} {H : Hp} : ∀ (fs : List Str) (ds : List D) (vs : List V), RA zz H vs ds → RF zz H (fs.zip vs) (fs.zip ds)
  | [], _, _, _ => by simp; exact .nil
  | _ :: _, [], _, h => by cases h; simp; exact .nil
  | f :: fs, _ :: ds, _, h => by cases h with | cons h1 h2 => exact .cons h1 (rf_zip fs ds _ h2)
theorem rf_app {zz : Option Addr} {H : Hp} : ∀ {ds es : List (Str × D)} {vs us : List (Str × V)}, RF zz H vs ds → RF zz H us es → RF zz H (vs ++ us) (ds ++ es)
  | [], _, _, _, h, g => by cases h; exact g
  | _ :: _, _, _, _, h, g => by cases h with | cons h1 h2 => exact .cons h1 (rf_app h2 g)
theorem rf_rev {zz : Option Addr} {H : Hp} : ∀ {ds : List (Str × D)} {vs : List (Str × V)}, RF zz H vs ds → RF zz H vs.reverse ds.reverse
  | [], _, h => by cases h; exact .nil
  | _ :: _, _, h => by cases h with | cons h1 h2 => simp only [List.reverse_cons]; exact rf_app (rf_rev h2) (.cons h1 .nil)
theorem mkv_core {C : Addr} {fs : List Str} {hs : Addr → Prop} {H : Hp} {Q : VK} {vs : List V} {ds : List D} (p : Ok z hs H) (w : Wd z hs H P Q) (rs : RA z (hid z hs H) vs ds) (hl : ds.length = fs.length) (q : P (.exc C (fs.zip ds).reverse)) (a : Addr) (n : H a = none) :
    spXI C fs (.ref a :: vs) (upd H a (exo a C none)) (fun v H3 => v = .non ∧ Q (.ref a) H3) fun _ _ _ => False := by
  refine ⟨a, vs, rfl, by rw [rs.length, hl], upd_same, fun H' k h => ⟨rfl, ?_⟩⟩
  obtain ⟨n1, n2⟩ := p.off n
  have e1 : ExZ z H H' := fun b o _ hb => k b o (ne_of_none hb n) (by rw [upd_ne (ne_of_none hb n)]; exact hb)
  have p1 : Ok z hs H' := p.next e1 (p.pot.keep fun b o hb => k b o (ne_of_none hb n) (by rw [upd_ne (ne_of_none hb n)]; exact hb))
  refine w _ H' _ e1 p1 ?_ q
  by_cases hf : fs = []
  · subst hf
    rw [if_pos rfl] at h
    simp only [List.zip_nil_left, List.reverse_nil]
    exact .exc0 (by rw [hid_ne n1 n2]; exact h)
  · rw [if_neg hf] at h
    obtain ⟨d, nd, h1, h2⟩ := h
    have nda : d ≠ a := fun e => by rw [e, upd_same] at nd; cases nd
    rw [upd_ne nda] at nd
    obtain ⟨m1, m2⟩ := p.off nd
    exact .exc (by rw [hid_ne n1 n2]; exact h1) (by rw [hid_ne m1 m2]; exact h2) (rf_rev (rf_zip _ _ _ (RA.mono (exz_hid e1) _ _ rs)))
theorem e_mkv {C : Addr} {fs : List Str} {ta : TA} {ρ : List (Option D)} (h : EA z ta ρ fun ds => ds.length = fs.length ∧ ds.length ≤ 1000 ∧ P (.exc C (fs.zip ds).reverse)) : E1 z (tMkV C (spXI C fs) (fun vs _ => vs) ta tNil) ρ P := fun hs σ H p s Q w =>
  h hs σ H p s _ fun vs H1 ds e1 p1 rs ⟨hl, hz, q⟩ => ⟨by rw [rs.length]; exact hz, fun a n => mkv_core p1 (w.back e1) rs hl q a n⟩
theorem e_mkvK {C : Addr} {fs : List Str} {tk : TA} {ρ : List (Option D)} (h : EA z tk ρ fun ds => ds.length = fs.length ∧ P (.exc C (fs.zip ds).reverse)) : E1 z (tMkV C (spXI C fs) (fun vs zs => vs ++ zs) tNil tk) ρ P := fun hs σ H p s Q w =>
  h hs σ H p s _ fun vs H1 ds e1 p1 rs ⟨hl, q⟩ => ⟨Nat.zero_le _, fun a n => mkv_core p1 (w.back e1) rs hl q a n⟩
theorem RA.reverse {zz : Option Addr} {H : Hp} : ∀ {ds : List D} {vs : List V}, RA zz H vs ds → RA zz H vs.reverse ds.reverse
  | [], _, h => by cases h; exact .nil
  | _ :: _, _, h => by cases h with | cons h1 h2 => simp only [List.reverse_cons]; exact (RA.reverse h2).append (.cons h1 .nil)
theorem e_mkvKr {C : Addr} {fs : List Str} {tk : TA} {ρ : List (Option D)} (h : EA z tk ρ fun ds => ds.length = fs.length ∧ P (.exc C (fs.zip ds.reverse).reverse)) : E1 z (tMkV C (spXI C fs) (fun vs zs => vs ++ zs.reverse) tNil tk) ρ P := fun hs σ H p s Q w =>
  h hs σ H p s _ fun vs H1 ds e1 p1 rs ⟨hl, q⟩ => ⟨Nat.zero_le _, fun a n => mkv_core p1 (w.back e1) rs.reverse (by rw [List.length_reverse]; exact hl) q a n⟩
theorem e_xfl {newId : String} {bm : List Value} {f : Str} {te : TE} {ρ : List (Option D)} (h : E1 z te ρ fun d => ∃ C fs v, d = .exc C fs ∧ (∃ newId bm, OxB K C newId bm) ∧ PySem.W.findIn K (.ref C) f = some none ∧ fs.lookup f = some v ∧ P v) : E1 z (tXfl K newId bm f te) ρ P := fun hs σ H p s Q w =>
  h hs σ H p s _ fun x H1 d e1 p1 rx ⟨C, fs, v, ed, T, hno, hl, q⟩ => by
    subst ed
    cases rx with
    | exc h1 h2 h3 =>
      obtain ⟨u, hu, r⟩ := h3.lookup hl
      exact ⟨_, C, _, _, u, rfl, T, hno, hid_sub _ _ h1, hid_sub _ _ h2, hu, (w.back e1).here p1 r q⟩
    | exc0 h1 => simp at hl
theorem o_isX {ds : List D} (h : ∃ C fs c cv b, ds = [.exc C fs, .raw c] ∧ ExcC K C ∧ (∀ u, RelV c u → u = cv) ∧ PySem.W.kitOne K (.ref C) cv = some b ∧ P (.bl b)) : OC z (rIsX K) ds P := fun hs xs H p rs Q w => by
  obtain ⟨C, fs, c, cv, b, rfl, T, hc, hk, q⟩ := h
  cases rs with
  | cons r rs =>
    cases rs with
    | cons r2 rs =>
      cases rs
      cases r2
      cases r with
      | exc h1 h2 h3 => exact ⟨_, C, _, c, cv, b, rfl, T, hid_sub _ _ h1, fun d e => by cases e; exact ⟨_, hid_sub _ _ h2⟩, hc, hk, w.here p (.bl _) q⟩
      | exc0 h1 => exact ⟨_, C, none, c, cv, b, rfl, T, hid_sub _ _ h1, fun d e => (nomatch e), hc, hk, w.here p (.bl _) q⟩
end
end PD

set_option Elab.async false
set_option linter.all false
set_option maxRecDepth 100000
set_option maxHeartbeats 4000000
/-! PD7: a def's promise in data; calls; new lists. -/
namespace PD
open PySem PySem.Spec PyProof.Rows L2
/-- n arguments that stand for data under Pre; the answer stands for data under Post; all but the pot is kept -/
def spD (n : Nat) (Pre : List D → Prop) (Post : List D → D → Prop) : Sp := fun vs H Q _ => ∃ z hs ds, ds.length = n ∧ Pre ds ∧ Ok z hs H ∧ RA z (hid z hs H) vs ds ∧ Wd z hs H (Post ds) Q
theorem spD_len {n : Nat} {Pre : List D → Prop} {Post : List D → D → Prop} (vs : List V) (H : Hp) (Q : VK) (E : XK) (h : spD n Pre Post vs H Q E) : vs.length = n := by
  obtain ⟨z, hs, ds, hl, _, _, r, _⟩ := h
  rw [r.length, hl]
def startS (N : List Str) (ds : List D) : List Sl := ds.map Sl.va ++ List.replicate (N.length - ds.length) .un
theorem ss_start {z : Option Addr} {G H : Hp} {N : List Str} {ds : List D} {vs : List V} (h : RA z G vs ds) : SS z G H (L2.start N vs) (startS N ds) [] := by
  have uns : ∀ n, SS z G H (List.replicate n none) (List.replicate n Sl.un) [] := fun n => by
    induction n with
    | zero => exact .nil
    | succ n ih => exact .un ih
  have app : ∀ {ds : List D} {vs : List V} {σ : L2.St} {ρ : List Sl}, SS z G H σ ρ [] → RA z G vs ds → SS z G H (vs.map some ++ σ) (ds.map Sl.va ++ ρ) [] := by
    intro ds
    induction ds with
    | nil => intro vs σ ρ g h; cases h; exact g
    | cons d ds ih => intro vs σ ρ g h; cases h with | cons h1 h2 => exact .va h1 (ih g h2)
  unfold L2.start startS
  rw [h.length]
  exact app (uns _) h
theorem reads_of {n : Nat} {Pre : List D → Prop} {Post : List D → D → Prop} {N : List Str} {t : TS}
    (h : ∀ z ds, ds.length = n → Pre ds → X1 z t (startS N ds) { nx := fun _ => Post ds .non, rt := Post ds }) {vs : List V} {H : Hp} {Q : VK} {E : XK} (q : spD n Pre Post vs H Q E) :
    t { nx := fun _ H' => Q .non H', rt := Q } (L2.start N vs) H := by
  obtain ⟨z, hs, ds, hl, hp, p, r, w⟩ := q
  have e0 : ∀ a, hsO hs [] a → hs a := fun a h => h.elim id (fun h => by cases h)
  have st : St1 z hs H (L2.start N vs) (startS N ds) [] := { ok := p, nd := List.nodup_nil, off := (fun _ h => by cases h), ss := ss_start (RA.mono (hid_less e0) _ _ r) }
  exact h z ds hl hp hs _ H [] st _ ⟨fun σ' H' ρ' O' e' s' q => w _ H' _ (fun a o n k => e'.keep a o n (fun h => by cases h) k) s'.ok .non q, fun v H' d k p' r' q => w v H' d (fun a o n e => k a o n (fun h => by cases h) e) p' r' q, fun _ _ _ _ _ _ q => q.elim, fun _ _ _ _ _ _ q => q.elim⟩
section
variable {P : Program} {w : World} {K : PySem.W.Frag} {mg : Str → Option Value} {base : Heap} {k : Nat} {f : Addr} {x qual : Str} {st : Stmt} {fd : FuncData} {N ps : List Str} {n : Nat} {Pre : List D → Prop} {Post : List D → D → Prop}
theorem okD (F : Fun K x qual st f fd) (S : FnScope N ps (defScope st)) (hn : n = ps.length)
    (h : ∀ (cdv : Value) (A : Around) (outer : List Env) (s : Shared) (H : Hp) (E : XK), Room k (A.deeper (envOfC qual (defScope st) s.heap.objs.size f cdv)) →
      ∃ t, PSs (cxOf CX0 P w K mg base N qual (defScope st) f cdv A outer s H E).nox (defBody st) t ∧ ∀ z ds, ds.length = n → Pre ds → X1 z t (startS N ds) { nx := fun _ => Post ds .non, rt := Post ds }) :
    FnOk P w K mg base CX0 (k + 1) f fd ps (spD n Pre Post) := by
  refine F.ok S (fun vs H Q E q => by rw [spD_len vs H Q E q, hn]) (fun cdv A outer s H vs Q E hr q => ?_)
  obtain ⟨t, h1, h2⟩ := h cdv A outer s H E hr
  exact ⟨t, h1, reads_of h2 q⟩
theorem okDG (F : Fun K x qual st f fd) (S : FnScope N ps (defScope st)) (hn : n = ps.length)
    (h : ∀ (cdv : Value) (A : Around) (outer : List Env) (s : Shared) (H : Hp) (E : XK), A.guards = some [] → Room k (A.deeper (envOfC qual (defScope st) s.heap.objs.size f cdv)) →
      ∃ t, PSs (cxOf CX0 P w K mg base N qual (defScope st) f cdv A outer s H E).nox (defBody st) t ∧ ∀ z ds, ds.length = n → Pre ds → X1 z t (startS N ds) { nx := fun _ => Post ds .non, rt := Post ds }) :
    FnG P w K mg base CX0 (k + 1) f fd ps (spD n Pre Post) := by
  refine okG F S (fun vs H Q E q => by rw [spD_len vs H Q E q, hn]) (fun cdv A outer s H vs Q E hg hr q => ?_)
  obtain ⟨t, h1, h2⟩ := h cdv A outer s H E hg hr
  exact ⟨t, h1, reads_of h2 q⟩
end
section
variable {z : Option Addr} {P : D → Prop} {K : PySem.W.Frag} {ρ : List (Option D)} {te ta tb : TE} {tr : TA} {out : Out} {r : List Sl}
theorem e_call {n : Nat} {Pre : List D → Prop} {Post : List D → D → Prop} {E : XK} (h : EA z tr ρ fun ds => ds.length = n ∧ Pre ds ∧ ∀ d, Post ds d → P d) : E1 z (tCall (spD n Pre Post) [] E tr) ρ P := fun hs σ H p s Q w =>
  h hs σ H p s _ fun vs H1 ds e1 p1 rs ⟨hn, hp, hq⟩ => ⟨z, hs, ds, hn, hp, p1, by rw [List.append_nil]; exact rs, (w.back e1).imp hq⟩
/-- a new list -/
def E1N (z : Option Addr) (te : TE) (ρ : List (Option D)) (P : List D → Prop) : Prop := ∀ hs σ H, Ok z hs H → SR z (hid z hs H) σ ρ → ∀ Q : VK,
  (∀ p vs H' ds, ExZ z H H' → Ok z hs H' → H p = none → H' p = some (.lst vs) → RA z (hid z (fun a => hs a ∨ a = p) H') vs ds → P ds → Q (.ref p) H') → te σ H Q
theorem new_n {hs : Addr → Prop} {H H1 : Hp} {Q : VK} {PL : List D → Prop} (w : ∀ p vs H' ds, ExZ z H H' → Ok z hs H' → H p = none → H' p = some (.lst vs) → RA z (hid z (fun a => hs a ∨ a = p) H') vs ds → PL ds → Q (.ref p) H')
    (e : ExZ z H H1) (p1 : Ok z hs H1) {vs : List V} {ds : List D} (rs : RA z (hid z hs H1) vs ds) (q : PL ds) (p : Addr) (n : H1 p = none) : Q (.ref p) (upd H1 p (.lst vs)) := by
  obtain ⟨n1, n2⟩ := p1.off n
  have n0 : H p = none := by
    cases h : H p with
    | none => rfl
    | some o => rw [e p o n1 h] at n; cases n
  refine w p vs _ ds (e.trans (ExZ.new n)) (p1.new n) n0 upd_same (RA.mono (fun a o h => ?_) _ _ rs) q
  obtain ⟨m1, m2, h⟩ := hid_some h
  have na : a ≠ p := ne_of_none h n
  rw [hid_ne m1 (by rintro (q | q); exact m2 q; exact na q), upd_ne na]
  exact h
theorem n_lst {PL : List D → Prop} (h : EA z tr ρ fun ds => ds.length ≤ sizeLine ∧ PL ds) : E1N z (tLst tr) ρ PL := fun hs σ H p s Q w =>
  h hs σ H p s _ fun xs H1 ds e1 p1 rs ⟨hl, q⟩ => ⟨by rw [rs.length]; exact hl, new_n w e1 p1 rs q⟩
theorem n_cat {PL : List D → Prop} (h : E1 z ta ρ fun d => E1 z tb ρ fun e => ∃ a b, d = .lst a ∧ e = .lst b ∧ a.length + b.length ≤ sizeLine ∧ PL (a ++ b)) : E1N z (tOp rCat ta tb) ρ PL := fun hs σ H p s Q w =>
  h hs σ H p s _ fun x H1 d e1 p1 rx h1 => h1 hs σ H1 p1 (s.mono (exz_hid e1)) _ fun y H2 e e2 p2 ry ⟨a, b, ea, eb, hl, q⟩ => by
    subst ea
    subst eb
    have rx' := R.mono (exz_hid e2) _ _ rx
    cases rx' with
    | lst h1 h2 =>
      cases ry with
      | lst g1 g2 => exact ⟨_, _, _, _, rfl, rfl, hid_sub _ _ h1, hid_sub _ _ g1, by rw [h2.length, g2.length]; exact hl, new_n w (e1.trans e2) p2 (h2.append g2) q⟩
theorem x_ownN {i : Nat} (hi : i < r.length) (h : E1N z te (r.map Sl.dat) fun ds => out.nx (r.set i (.ow ds))) : X1 z (tAsg te (gName i)) r out := fun hs σ H O s F w =>
  h (hsO hs O) σ H s.okO s.ss.dat _ fun p vs H1 ds e1 p1 n hp rs q => by
    obtain ⟨n1, n2⟩ := s.okO.off n
    have n3 : p ∉ O := fun q => n2 (.inr q)
    have s1 : St1 z hs H1 σ r O := s.next e1 (okO_ok p1)
    have less : ∀ a, (hsO hs O a ∨ a = p) → hsO hs (p :: O) a := fun a h => by
      rcases h with (h | h) | h
      · exact .inl h
      · exact .inr (List.mem_cons_of_mem _ h)
      · exact .inr (by rw [h]; exact List.mem_cons_self ..)
    have more : ∀ a, hsO hs (p :: O) a → (hsO hs O a ∨ a = p) := fun a h => by
      rcases h with h | h
      · exact .inl (.inl h)
      · rcases List.mem_cons.mp h with h | h
        · exact .inr h
        · exact .inl (.inr h)
    have key : Ex (hid z (hsO hs O) H) (hid z (hsO hs (p :: O)) H1) := fun a o h => by
      obtain ⟨m1, m2, h⟩ := hid_some h
      have na : a ≠ p := ne_of_none h n
      rw [hid_ne m1 (fun q => (more a q).elim m2 na)]
      exact e1 a o m1 h
    obtain ⟨O', sub, s3⟩ := s1.setOw (p := p) n1 (fun q => n2 (.inl q)) n3 hp (RA.mono (hid_less more) _ _ rs) (s.ss.mono key fun a ha o ho => e1 a o (s.off a ha).1 ho) i hi
    refine w.nx _ _ _ O' ⟨fun a o m _ h => e1 a o m h, fun a ha => ?_⟩ s3 q
    rcases sub a ha with rfl | h
    · exact .inr ⟨n1, n⟩
    · exact .inl h
end
end PD

set_option Elab.async false
set_option linter.all false
set_option maxRecDepth 100000
set_option maxHeartbeats 4000000
/-! PD8: small dicts; tests of truth by data; keywords' bindings; bounds of texts. -/
namespace PD
open PySem PySem.Spec PyProof.Rows L2
section
variable {z : Option Addr} {P : D → Prop} {K : PySem.W.Frag} {ρ : List (Option D)} {te ta tb : TE} {tr : TA} {out : Out} {r : List Sl}
theorem e_dnew (q : P (.dct [])) : E1 z tDNewK ρ P := fun hs σ H p s Q w => fun a n => new_w w p n (fun H' h1 h2 => .dct h1 .nil) q
theorem e_disp1 {k : Str} {i : Int} (q : P (.dct [(.inr k, .int i)])) : E1 z (tDisp [(tC (.str k), tC (.int i))]) ρ P := fun hs σ H p s Q w => fun a n => by
  refine ⟨upd_same, [(.inr k, .int i)], rfl, by simp, ?_⟩
  have e : upd (upd H a (.dK [])) a (.dK (mergeK [] [((.inr k : Key), V.int i)])) = upd H a (.dK [((.inr k : Key), V.int i)]) := upd_upd
  rw [e]
  exact new_w w p n (fun H' h1 h2 => .dct h1 (.cons (.int i) .nil)) q
/-- a flat thing in a tuple or list of flat things -/
def vd : D → Option V
  | .non => some .non
  | .bl b => some (.bl b)
  | .int i => some (.int i)
  | .str x => some (.str x)
  | _ => none
theorem vd_is {H : Hp} {v u : V} {d : D} (h : vd d = some u) (r : R z H v d) : v = u := by
  cases d <;> first | (cases h; cases r; rfl) | cases h
def vdA : List D → Option (List V)
  | [] => some []
  | d :: ds => (vd d).bind fun v => (vdA ds).bind fun vs => some (v :: vs)
theorem vdA_is {H : Hp} : ∀ {ds : List D} {vs us : List V}, vdA ds = some us → RA z H vs ds → vs = us
  | [], _, _, h, r => by cases r; cases h; rfl
  | d :: ds, _, _, h, r => by
    cases r with
    | cons r1 r2 =>
      obtain ⟨v, h1, h⟩ := Option.bind_eq_some_iff.mp h
      obtain ⟨vs, h2, h⟩ := Option.bind_eq_some_iff.mp h
      cases h
      rw [vd_is h1 r1, vdA_is h2 r2]
theorem o_in {neg : Bool} {d e : D} (h : ∃ ds u us, (e = .lst ds ∨ e = .tup ds) ∧ vd d = some u ∧ vdA ds = some us ∧ flatV u = true ∧ us.all flatV = true ∧ P (.bl (if neg then !inV u us else inV u us))) : O2 z (rIn K neg) d e P := fun hs x y H p rx ry Q w => by
  obtain ⟨ds, u, us, he, h1, h2, f1, f2, q⟩ := h
  have ex := vd_is h1 rx
  subst ex
  rcases he with rfl | rfl
  · cases ry with
    | lst g1 g2 =>
      have e2 := vdA_is h2 g2
      subst e2
      exact ⟨_, _, rfl, .inl (.inl (.inl (hid_sub _ _ g1))), f1, f2, w.here p (.bl _) q⟩
  · cases ry with
    | tup g1 g2 =>
      have e2 := vdA_is h2 g2
      subst e2
      exact ⟨_, _, rfl, .inr (.inl (.inl (hid_sub _ _ g1))), f1, f2, w.here p (.bl _) q⟩
end
/-! ### keywords in the parameters' reversed order -/
def kgr {α : Type} (n : Nat) (us ws : List α) : List α := match us with
  | [a] => if ws.length = n then a :: ws.reverse else []
  | _ => []
theorem kgr_rel {n : Nat} {vs : List V} {us : List Value} {zs : List V} {ws : List Value} (r : Vals vs us) (q : Vals zs ws) : Vals (kgr n vs zs) (kgr n us ws) := by
  have rev : ∀ {zs : List V} {ws : List Value}, Vals zs ws → Vals zs.reverse ws.reverse := by
    intro zs ws q
    induction q with
    | nil => exact .nil
    | cons h _ ih => simp only [List.reverse_cons]; exact ih.append (.cons h .nil)
  have hl := q.length
  cases r with
  | nil => exact .nil
  | cons h t =>
    cases t with
    | nil =>
      show Vals (if zs.length = n then _ else []) (if ws.length = n then _ else [])
      by_cases c : zs.length = n
      · rw [if_pos c, if_pos (by rw [← hl]; exact c)]
        exact .cons h (rev q)
      · rw [if_neg c, if_neg (by rw [← hl]; exact c)]
        exact .nil
    | cons _ _ => exact .nil
theorem kgr_len {α : Type} {n : Nat} {us ws : List α} (h : (kgr n us ws).length = n + 1) : ∃ a, us = [a] ∧ ws.length = n := by
  unfold kgr at h
  split at h
  · rename_i a
    split at h
    · rename_i c
      exact ⟨a, rfl, c⟩
    · simp at h
  · simp at h
theorem e_mkvR {C : Addr} {fs : List Str} {tk : TA} {z : Option Addr} {P : D → Prop} {ρ : List (Option D)} {n : Nat} (h : EA z tk ρ fun ds => ds.length = fs.length ∧ ds.length = n ∧ P (.exc C (fs.zip ds.reverse).reverse)) : E1 z (tMkV C (spXI C fs) (kgr n) tNil tk) ρ P := fun hs σ H p s Q w =>
  h hs σ H p s _ fun vs H1 ds e1 p1 rs ⟨hl, hn, q⟩ => ⟨Nat.zero_le _, fun a na => by
    have e : kgr n [V.ref a] vs = .ref a :: vs.reverse := if_pos (by rw [rs.length, hn])
    rw [e]
    exact mkv_core p1 (w.back e1) rs.reverse (by rw [List.length_reverse]; exact hl) q a na⟩
/-! ### bounds of shown data -/
structure Small (d : D) : Prop where
  p : isPy d = true
  s : (py d).showable = true
  l : (py d).shown.length ≤ 1000
  n : dp d ≤ 10
theorem smallA {ds : List D} (h : ∀ d ∈ ds, Small d) : isPyA ds = true ∧ PyData.showableAll (pyA ds) = true ∧ ((PyData.shownAll (pyA ds)).map (·.length)).sum ≤ 1000 * ds.length ∧ (PyData.shownAll (pyA ds)).length = ds.length ∧ dpA ds ≤ 10 := by
  induction ds with
  | nil => exact ⟨rfl, rfl, Nat.le_refl _, rfl, Nat.zero_le _⟩
  | cons d ds ih =>
    obtain ⟨i1, i2, i3, i4, i5⟩ := ih fun e he => h e (List.mem_cons_of_mem _ he)
    have q := h d (List.mem_cons_self ..)
    refine ⟨?_, ?_, ?_, ?_, ?_⟩
    · simp only [isPyA, q.p, i1, Bool.and_self]
    · simp only [pyA, PyData.showableAll, q.s, i2, Bool.and_self]
    · simp only [pyA, PyData.shownAll, List.map_cons, List.sum_cons, List.length_cons]
      have := q.l
      omega
    · simp only [pyA, PyData.shownAll, List.length_cons, i4]
    · simp only [dpA]
      have := q.n
      omega
/-- repr of a list of small things -/
theorem o_reprL {z : Option Addr} {P : D → Prop} {xs : List D} (hs : ∀ d ∈ xs, Small d) (hl : xs.length ≤ 1000) (q : P (.str (py (.lst xs)).shown)) : OC z rRepr [.lst xs] P := by
  obtain ⟨i1, i2, i3, i4, i5⟩ := smallA hs
  refine o_repr ⟨_, rfl, by simpa only [isPy] using i1, by simpa only [py, PyData.showable] using i2, ?_, by simp only [dp]; omega, q⟩
  simp only [py, PyData.shown]
  have := listText_len_le (PyData.shownAll (pyA xs))
  rw [sizeLine_eq]
  omega
theorem o_reprS {z : Option Addr} {P : D → Prop} {d : D} (hs : Small d) (q : P (.str (py d).shown)) : OC z rRepr [d] P :=
  o_repr ⟨_, rfl, hs.p, hs.s, Nat.le_trans hs.l (by rw [sizeLine_eq]; decide), Nat.le_trans hs.n (by decide), q⟩
/-! ### lists of truths compared -/
theorem py_bools (bs : List Bool) : py (.lst (bs.map D.bl)) = .list (bs.map PyData.bool) := by
  have : ∀ bs : List Bool, pyA (bs.map D.bl) = bs.map PyData.bool := fun bs => by
    induction bs with
    | nil => rfl
    | cons b bs ih => simp only [List.map_cons, pyA, py, ih]
  simp only [py, this]
theorem isPy_bools (bs : List Bool) : isPy (.lst (bs.map D.bl)) = true := by
  have : ∀ bs : List Bool, isPyA (bs.map D.bl) = true := fun bs => by
    induction bs with
    | nil => rfl
    | cons b bs ih => simp only [List.map_cons, isPyA, isPy, ih, Bool.and_self]
  simp only [isPy, this]
theorem can_bools (bs : List Bool) : (py (.lst (bs.map D.bl))).canLay0 = true := by
  rw [py_bools]
  have h1 : ∀ bs : List Bool, PyData.canLayAll0 (bs.map PyData.bool) = true := fun bs => by
    induction bs with
    | nil => rfl
    | cons b bs ih => simp only [List.map_cons, PyData.canLayAll0, PyData.canLay0, ih, Bool.and_self]
  simp only [PyData.canLay0, h1]
theorem shaped_bools (bs : List Bool) : SeqAt.shaped (py (.lst (bs.map D.bl))) = true := by
  rw [py_bools]
  have h1 : ∀ bs : List Bool, PyData.canLayAll0 (bs.map PyData.bool) = true := fun bs => by
    induction bs with
    | nil => rfl
    | cons b bs ih => simp only [List.map_cons, PyData.canLayAll0, PyData.canLay0, ih, Bool.and_self]
  have h2 : ∀ bs : List Bool, PyData.depthAll (bs.map PyData.bool) = 0 := fun bs => by
    induction bs with
    | nil => rfl
    | cons b bs ih => simp only [List.map_cons, PyData.depthAll, PyData.depth, ih, Nat.max_self]
  unfold SeqAt.shaped
  simp only [PyData.canLay0, h1, PyData.depth, h2, Bool.true_and]
  decide
theorem o_neB {z : Option Addr} {P : D → Prop} {K : PySem.W.Frag} {d e : D} (h : ∃ bs : List Bool, d = .lst (bs.map D.bl) ∧ e = .lst (bs.map D.bl) ∧ P (.bl false)) : O2 z (rNeD K) d e P := by
  obtain ⟨bs, rfl, rfl, q⟩ := h
  refine o_neD (isPy_bools bs) (isPy_bools bs) (shaped_bools bs) (shaped_bools bs) ?_
  rw [SeqAt.eqv_refl _ (can_bools bs)]
  exact q
end PD

set_option Elab.async false
set_option linter.all false
set_option maxRecDepth 100000
set_option maxHeartbeats 4000000
/-! PH: the head by one run: what the end leans on is one truth value told of the part that the module's names reach, and the defs' own data. -/
namespace PH
open PySem PySem.Spec PyProof.Rows L2 PD
/-- what the module's names reach in n steps, and the statics' table -/
def reach (g : Addr → Option Obj) (n : Nat) : List Addr := He.asG g n ++ [cStatics]
def obs (n : Nat) (B : PySem.W.Frag → Bool) (fn : List He.FnD) (g : Addr → Option Obj) : Bool × List He.FnV := (B (He.frG g (reach g n)), fn.map fun d => He.fnObs (He.frG g (reach g n)) d.at_)
def Says (B : PySem.W.Frag → Bool) (fn : List He.FnD) (h : Heap) : Prop := ∃ K : PySem.W.Frag, K.In h ∧ B K = true ∧ fn.map (fun d => He.fnObs K d.at_) = fn.map He.FnD.val
def hook (n : Nat) (B : PySem.W.Frag → Bool) (fn : List He.FnD) : PySem.W.Hook where
  α := Bool × List He.FnV
  obs := fun s => obs n B fn s.heap.get?
  val := fun _ => (true, fn.map He.FnD.val)
  says := fun _ h => Says B fn h
  of := fun _ _ e => ⟨_, He.frG_in, congrArg (fun z : Bool × List He.FnV => z.1) e, congrArg (fun z : Bool × List He.FnV => z.2) e⟩
  keeps := fun _ _ _ ⟨K, hK, c⟩ k => ⟨K, PySem.W.Frag.In.keeps hK k, c⟩
theorem obs_eq {n : Nat} {B : PySem.W.Frag → Bool} {fn : List He.FnD} (s : PySem.W.SharedT) : obs n B fn (HandSHeadRun.getT s) = (hook n B fn).obs s.abs := by
  have e : HandSHeadRun.getT s = s.abs.heap.get? := funext fun a => HandSHeadRun.getT_eq s a
  rw [e]
  rfl
theorem fn_at {fn : List He.FnD} {K : PySem.W.Frag} (e : fn.map (fun d => He.fnObs K d.at_) = fn.map He.FnD.val) (i : Nat) {d : He.FnD} (h : fn[i]? = some d) : He.fnObs K d.at_ = d.val := by
  have e2 : (fn.map fun d => He.fnObs K d.at_)[i]? = (fn.map He.FnD.val)[i]? := by rw [e]
  rw [List.getElem?_map, List.getElem?_map, h] at e2
  exact Option.some.inj e2
/-- the walk's end -/
theorem walk {l : PySem.W.OpenLaw} {n k : Nat} {q : Program} {loose : List Str} {XP : (Str → Option Value) → Heap → Prop} {YP : World → Heap → Prop} {d : DefRec} {x : Str}
    (hn : l.most = some n) (hn2 : n ≤ sizeLine) (hdf : d.params.defaults = []) (hr : Room k callerA)
    (F : ∀ (w : World) (mg : Str → Option Value) (fa : Addr) (h : Heap), YP w h → h.Ns mainGlobals mg → mg d.name = some (.ref fa) →
      ∃ (K : PySem.W.Frag) (fd : FuncData) (sp : Sp), K.In h ∧ (∀ (s : Shared) (u : Value), BindsTo s fd ⟨[u], []⟩ [(x, u)]) ∧
        (∀ (H : Hp) (a : Addr) (ns : List Int), ns.length ≤ n → Only H → SqL K H a (ns.map V.int) → sp [.ref a] H (fun v _ => v = .bl true) fun _ _ _ => False) ∧
        ∀ base : Heap, K.In base → base.Ns mainGlobals mg → FnG l.prog w K mg base CX0 k fa fd [x] sp) :
    PySem.W.WalkO q loose XP YP l.row.toRowW d [] (fun f vs => PySem.call f vs) := by
  refine Att.attach_call hn hdf fun w s₀ s₁ mg mb fa o pm cd doc a vs ns G Y ho hd hcd hmg hobj hints hlen hg => ?_
  obtain ⟨K, fd, sp, KX, hb, hsp, hF⟩ := F w mg fa _ Y G.T.g hmg
  exact lawG KX G.T.g G.T.b G.T.builtins G.T.nolimit hg hobj hints (Nat.le_trans hlen hn2) hr hF hb (fun H hO hS => hsp H a ns hlen hO hS)
end PH

set_option Elab.async false
set_option linter.all false
set_option maxRecDepth 100000
set_option maxHeartbeats 4000000
/-! The errors' law: each class's __init__, then the law's defs, in data. -/
namespace K16
open PySem PySem.Spec PyProof.Rows L2 PD
def topS (i : Nat) : Stmt := PySem.Challenge.pw_wakesayings_k16_errors.main.body.getD i (.Pass ⟨0, 0, 0, 0⟩)
abbrev iInvalidLetter : Stmt := inClass (topS 5) 0
abbrev iInvalidWord : Stmt := inClass (topS 6) 0
abbrev iInvalidNumber : Stmt := inClass (topS 8) 0
abbrev iInvalidFront : Stmt := inClass (topS 9) 0
abbrev iInvalidSaying : Stmt := inClass (topS 12) 0
abbrev iInvalidBook : Stmt := inClass (topS 14) 0
abbrev iInvalidTerm : Stmt := inClass (topS 16) 0
abbrev iInvalidWeb : Stmt := inClass (topS 19) 0
abbrev iInvalidMaker : Stmt := inClass (topS 21) 0
abbrev iInvalidChoice : Stmt := inClass (topS 23) 0
abbrev iInvalidWish : Stmt := inClass (topS 24) 0
abbrev iInvalidClaim : Stmt := inClass (topS 26) 0
abbrev iInvalidName : Stmt := inClass (topS 27) 0
abbrev iInvalidEntry : Stmt := inClass (topS 28) 0
abbrev iInvalidCommand : Stmt := inClass (topS 29) 0
abbrev iInvalidWords : Stmt := inClass (topS 7) 0
abbrev iInvalidTriggers : Stmt := inClass (topS 10) 0
abbrev iInvalidMakes : Stmt := inClass (topS 11) 0
abbrev iInvalidSayings : Stmt := inClass (topS 13) 0
abbrev iInvalidThings : Stmt := inClass (topS 15) 0
abbrev iInvalidTerms : Stmt := inClass (topS 17) 0
abbrev iInvalidPairs : Stmt := inClass (topS 18) 0
abbrev iInvalidInstances : Stmt := inClass (topS 20) 0
abbrev iInvalidOffers : Stmt := inClass (topS 22) 0
abbrev iInvalidText : Stmt := inClass (topS 25) 0
abbrev iUnknownLetter : Stmt := inClass (topS 30) 0
abbrev iUnknownTerm : Stmt := inClass (topS 31) 0
abbrev iUnknownName : Stmt := inClass (topS 32) 0
abbrev iNothingToUndo : Stmt := inClass (topS 33) 0
abbrev iCantMake : Stmt := inClass (topS 34) 0
abbrev iCommandFailed : Stmt := inClass (topS 35) 0
abbrev iTooMany : Stmt := inClass (topS 36) 0
abbrev s_law_pot : Stmt := topS 38
abbrev s_law_draw : Stmt := topS 39
abbrev s_law_pick : Stmt := topS 40
abbrev s_law_thing : Stmt := topS 41
abbrev s_law_wakes : Stmt := topS 42
abbrev s_law_which_wake : Stmt := topS 43
abbrev s_law_rest : Stmt := topS 44
abbrev s_law_which_rest : Stmt := topS 45
abbrev s_law_bases : Stmt := topS 46
abbrev s_law_classes_right : Stmt := topS 47
abbrev s_law_fields_right : Stmt := topS 48
abbrev s_law_named_right : Stmt := topS 49
abbrev s_law_right : Stmt := topS 50
abbrev slaw : Stmt := topS 51
/-- a base of the text: it has the built-in's __init__ -/
structure Bs (K : PySem.W.Frag) (mg : Str → Option Value) (nm : Str) (initId : String) (W : Addr) : Prop where
  g : mg nm = some (.ref W)
  rd : ∃ mc, PySem.W.readsIn K W mc = true ∧ PySem.W.findCls K (.ref W) mc "__init__" = some (.val (.builtin initId))
  ga : PySem.W.specialIn K (.ref W) "__getattribute__" = some (some (.builtin "type.__getattribute__"))
/-- a class of the text -/
structure Cf (K : PySem.W.Frag) (mg : Str → Option Value) (nm qual : Str) (st : Stmt) (newId : String) (bm : List Value) (fs : List Str) (C : Addr) : Prop where
  g : mg nm = some (.ref C)
  ox : OxB K C newId bm
  nf : ∀ f ∈ fs, PySem.W.findIn K (.ref C) f = some none
  ini : ∃ fI fd, PySem.W.findIn K (.ref C) "__init__" = some (some (.ref fI)) ∧ PySem.W.typeIn K (.ref fI) = some (.type "function") ∧ Fun K "__init__" qual st fI fd
def clsB (K : PySem.W.Frag) (newId : String) (bm : List Value) (fs : List Str) (C : Addr) : Bool := oxB K newId bm C && fs.all fun f => decide (PySem.W.findIn K (.ref C) f = some none)
theorem cf_mk {K : PySem.W.Frag} {h : Heap} {mg : Str → Option Value} (KX : K.In h) (G : h.Ns mainGlobals mg) {nm qual : Str} {st : Stmt} {newId : String} {bm : List Value} {fs : List Str} {C fI : Addr} {oc : Value} {od an : Option Addr} {osl : Array (Option Value)} {kV doc pm cdv ct : Value}
    (aC : PySem.W.nsIn K mainGlobals nm = some (some (.ref C))) (ox : clsB K newId bm fs C = true) (a1 : PySem.W.findIn K (.ref C) "__init__" = some (some (.ref fI))) (t1 : PySem.W.typeIn K (.ref fI) = some (.type "function"))
    (l1 : K.lookup fI = some ⟨oc, od, .func (PySem.W.fnOf "__init__" qual (defArgs st) (defBody st) (defScope st) .none kV doc pm an cdv ct), osl⟩) (c1 : PySem.W.codeIn K cdv qual = true) (k1 : PySem.W.keepIn K (.ref fI) = true) : Cf K mg nm qual st newId bm fs C := by
  unfold clsB at ox
  rw [Bool.and_eq_true] at ox
  exact ⟨PySem.W.mg_of KX G aC, oxB_ok ox.1, fun f hf => of_decide_eq_true (List.all_eq_true.mp ox.2 f hf), fI, _, a1, t1, fun_mk (st := st) l1 c1 k1⟩
/-! ### each __init__ -/
section
variable {K : PySem.W.Frag} {newId : String} {bm : List Value} {C : Addr} {txt : Str} {vs : List V} {H : Hp} {Q : VK} {E : XK}
theorem rd0 {n0 : Str} (T : OxB K C newId bm) (h : spXI C [] vs H Q E) : tDrop (tBin K newId bm (tCons (tVar 0) (tCons (tC (.str txt)) tNil))) { nx := fun _ H' => Q .non H', rt := Q } (L2.start [n0] vs) H := by
  obtain ⟨a, us, rfl, hl, ha, k⟩ := h
  obtain rfl : us = [] := List.eq_nil_of_length_eq_zero hl
  exact ⟨.ref a, rfl, a, C, [.str txt], rfl, by simp, T, ha, k _ (fun b o _ e => e) (by rw [if_pos rfl]; exact ha)⟩
theorem rd1 {n0 n1 f : Str} (T : OxB K C newId bm) (hno : PySem.W.findIn K (.ref C) f = some none) (h : spXI C [f] vs H Q E) :
    tSeq (tDrop (tBin K newId bm (tCons (tVar 0) (tCons (tC (.str txt)) tNil)))) (tOset K newId bm f (tVar 0) (tVar 1)) { nx := fun _ H' => Q .non H', rt := Q } (L2.start [n0, n1] vs) H := by
  obtain ⟨a, us, rfl, hl, ha, k⟩ := h
  obtain ⟨v, rfl⟩ := List.length_eq_one_iff.mp hl
  refine ⟨.ref a, rfl, a, C, [.str txt], rfl, by simp, T, ha, v, rfl, .ref a, rfl, a, C, rfl, T, hno, .inl ⟨ha, fun dx n ne => ?_⟩⟩
  refine k _ (fun b o hb e => ?_) ?_
  · rw [upd_ne hb, upd_ne (ne_of_none e n)]; exact e
  · rw [if_neg (by simp)]
    exact ⟨dx, n, upd_same, by rw [upd_ne ne, upd_same]; rfl⟩
theorem rd2 {n0 n1 n2 f g : Str} (T : OxB K C newId bm) (hf : PySem.W.findIn K (.ref C) f = some none) (hg : PySem.W.findIn K (.ref C) g = some none) (h : spXI C [f, g] vs H Q E) :
    tSeq (tDrop (tBin K newId bm (tCons (tVar 0) (tCons (tC (.str txt)) tNil)))) (tSeq (tOset K newId bm f (tVar 0) (tVar 1)) (tOset K newId bm g (tVar 0) (tVar 2))) { nx := fun _ H' => Q .non H', rt := Q } (L2.start [n0, n1, n2] vs) H := by
  obtain ⟨a, us, rfl, hl, ha, k⟩ := h
  obtain ⟨v, u, rfl⟩ : ∃ v u, us = [v, u] := by
    match us, hl with
    | [v, u], _ => exact ⟨v, u, rfl⟩
  refine ⟨.ref a, rfl, a, C, [.str txt], rfl, by simp, T, ha, v, rfl, .ref a, rfl, a, C, rfl, T, hf, .inl ⟨ha, fun dx n ne => ?_⟩⟩
  refine ⟨u, rfl, .ref a, rfl, a, C, rfl, T, hg, .inr ⟨dx, [(f, v)], upd_same, by rw [upd_ne ne, upd_same], by simp, ?_⟩⟩
  refine k _ (fun b o hb e => ?_) ?_
  · rw [upd_ne (ne_of_none e n), upd_ne hb, upd_ne (ne_of_none e n)]; exact e
  · rw [if_neg (by simp)]
    exact ⟨dx, n, by rw [upd_ne (Ne.symm ne), upd_same], by rw [upd_same]; rfl⟩
theorem lenXI {fs : List Str} {m : Nat} (hm : m = fs.length + 1) (vs : List V) (H : Hp) (Q : VK) (E : XK) (h : spXI C fs vs H Q E) : vs.length = m := by
  obtain ⟨a, us, rfl, hl, _⟩ := h
  simp [hl, hm]
end
section
variable {P : Program} {w : World} {K : PySem.W.Frag} {mg : Str → Option Value} {base : Heap}
theorem scInvalidLetter : FnScope ["self", "value"] ["self", "value"] (defScope iInvalidLetter) := ⟨rfl, rfl, rfl, by decide +kernel, rfl, by decide +kernel, by decide +kernel⟩
theorem okInvalidLetter {f Wb D : Addr} {fd : FuncData} (F : Fun K "__init__" "InvalidLetter.__init__" iInvalidLetter f fd) (b : Bs K mg "WakeError" "ValueError.__init__" Wb) (C : Cf K mg "InvalidLetter" "InvalidLetter.__init__" iInvalidLetter "ValueError.__new__" (tailOf "ValueError") ["value"] D) : FnOk P w K mg base CX0 1 f fd ["self", "value"] (spXI D ["value"]) := by
  refine F.ok scInvalidLetter (lenXI rfl) (fun cdv A outer s H vs Q E hr h => ?_)
  obtain ⟨mc, rd, at_⟩ := b.rd
  exact ⟨_, pss_cons (ps_expr (pe_bin exb_V rfl b.g rd b.ga at_ (pa_cons (pv 0) (pa_cons pe_str pa_nil)))) (pss_one (ps_oset exb_V (pv 0) (pv 1))), rd1 C.ox (C.nf _ (by simp)) h⟩
theorem scInvalidWord : FnScope ["self", "value"] ["self", "value"] (defScope iInvalidWord) := ⟨rfl, rfl, rfl, by decide +kernel, rfl, by decide +kernel, by decide +kernel⟩
theorem okInvalidWord {f Wb D : Addr} {fd : FuncData} (F : Fun K "__init__" "InvalidWord.__init__" iInvalidWord f fd) (b : Bs K mg "WakeError" "ValueError.__init__" Wb) (C : Cf K mg "InvalidWord" "InvalidWord.__init__" iInvalidWord "ValueError.__new__" (tailOf "ValueError") ["value"] D) : FnOk P w K mg base CX0 1 f fd ["self", "value"] (spXI D ["value"]) := by
  refine F.ok scInvalidWord (lenXI rfl) (fun cdv A outer s H vs Q E hr h => ?_)
  obtain ⟨mc, rd, at_⟩ := b.rd
  exact ⟨_, pss_cons (ps_expr (pe_bin exb_V rfl b.g rd b.ga at_ (pa_cons (pv 0) (pa_cons pe_str pa_nil)))) (pss_one (ps_oset exb_V (pv 0) (pv 1))), rd1 C.ox (C.nf _ (by simp)) h⟩
theorem scInvalidNumber : FnScope ["self", "value"] ["self", "value"] (defScope iInvalidNumber) := ⟨rfl, rfl, rfl, by decide +kernel, rfl, by decide +kernel, by decide +kernel⟩
theorem okInvalidNumber {f Wb D : Addr} {fd : FuncData} (F : Fun K "__init__" "InvalidNumber.__init__" iInvalidNumber f fd) (b : Bs K mg "WakeError" "ValueError.__init__" Wb) (C : Cf K mg "InvalidNumber" "InvalidNumber.__init__" iInvalidNumber "ValueError.__new__" (tailOf "ValueError") ["value"] D) : FnOk P w K mg base CX0 1 f fd ["self", "value"] (spXI D ["value"]) := by
  refine F.ok scInvalidNumber (lenXI rfl) (fun cdv A outer s H vs Q E hr h => ?_)
  obtain ⟨mc, rd, at_⟩ := b.rd
  exact ⟨_, pss_cons (ps_expr (pe_bin exb_V rfl b.g rd b.ga at_ (pa_cons (pv 0) (pa_cons pe_str pa_nil)))) (pss_one (ps_oset exb_V (pv 0) (pv 1))), rd1 C.ox (C.nf _ (by simp)) h⟩
theorem scInvalidFront : FnScope ["self", "value"] ["self", "value"] (defScope iInvalidFront) := ⟨rfl, rfl, rfl, by decide +kernel, rfl, by decide +kernel, by decide +kernel⟩
theorem okInvalidFront {f Wb D : Addr} {fd : FuncData} (F : Fun K "__init__" "InvalidFront.__init__" iInvalidFront f fd) (b : Bs K mg "WakeError" "ValueError.__init__" Wb) (C : Cf K mg "InvalidFront" "InvalidFront.__init__" iInvalidFront "ValueError.__new__" (tailOf "ValueError") ["value"] D) : FnOk P w K mg base CX0 1 f fd ["self", "value"] (spXI D ["value"]) := by
  refine F.ok scInvalidFront (lenXI rfl) (fun cdv A outer s H vs Q E hr h => ?_)
  obtain ⟨mc, rd, at_⟩ := b.rd
  exact ⟨_, pss_cons (ps_expr (pe_bin exb_V rfl b.g rd b.ga at_ (pa_cons (pv 0) (pa_cons pe_str pa_nil)))) (pss_one (ps_oset exb_V (pv 0) (pv 1))), rd1 C.ox (C.nf _ (by simp)) h⟩
theorem scInvalidSaying : FnScope ["self", "value"] ["self", "value"] (defScope iInvalidSaying) := ⟨rfl, rfl, rfl, by decide +kernel, rfl, by decide +kernel, by decide +kernel⟩
theorem okInvalidSaying {f Wb D : Addr} {fd : FuncData} (F : Fun K "__init__" "InvalidSaying.__init__" iInvalidSaying f fd) (b : Bs K mg "WakeError" "ValueError.__init__" Wb) (C : Cf K mg "InvalidSaying" "InvalidSaying.__init__" iInvalidSaying "ValueError.__new__" (tailOf "ValueError") ["value"] D) : FnOk P w K mg base CX0 1 f fd ["self", "value"] (spXI D ["value"]) := by
  refine F.ok scInvalidSaying (lenXI rfl) (fun cdv A outer s H vs Q E hr h => ?_)
  obtain ⟨mc, rd, at_⟩ := b.rd
  exact ⟨_, pss_cons (ps_expr (pe_bin exb_V rfl b.g rd b.ga at_ (pa_cons (pv 0) (pa_cons pe_str pa_nil)))) (pss_one (ps_oset exb_V (pv 0) (pv 1))), rd1 C.ox (C.nf _ (by simp)) h⟩
theorem scInvalidBook : FnScope ["self", "value"] ["self", "value"] (defScope iInvalidBook) := ⟨rfl, rfl, rfl, by decide +kernel, rfl, by decide +kernel, by decide +kernel⟩
theorem okInvalidBook {f Wb D : Addr} {fd : FuncData} (F : Fun K "__init__" "InvalidBook.__init__" iInvalidBook f fd) (b : Bs K mg "WakeError" "ValueError.__init__" Wb) (C : Cf K mg "InvalidBook" "InvalidBook.__init__" iInvalidBook "ValueError.__new__" (tailOf "ValueError") ["value"] D) : FnOk P w K mg base CX0 1 f fd ["self", "value"] (spXI D ["value"]) := by
  refine F.ok scInvalidBook (lenXI rfl) (fun cdv A outer s H vs Q E hr h => ?_)
  obtain ⟨mc, rd, at_⟩ := b.rd
  exact ⟨_, pss_cons (ps_expr (pe_bin exb_V rfl b.g rd b.ga at_ (pa_cons (pv 0) (pa_cons pe_str pa_nil)))) (pss_one (ps_oset exb_V (pv 0) (pv 1))), rd1 C.ox (C.nf _ (by simp)) h⟩
theorem scInvalidTerm : FnScope ["self", "value"] ["self", "value"] (defScope iInvalidTerm) := ⟨rfl, rfl, rfl, by decide +kernel, rfl, by decide +kernel, by decide +kernel⟩
theorem okInvalidTerm {f Wb D : Addr} {fd : FuncData} (F : Fun K "__init__" "InvalidTerm.__init__" iInvalidTerm f fd) (b : Bs K mg "WakeError" "ValueError.__init__" Wb) (C : Cf K mg "InvalidTerm" "InvalidTerm.__init__" iInvalidTerm "ValueError.__new__" (tailOf "ValueError") ["value"] D) : FnOk P w K mg base CX0 1 f fd ["self", "value"] (spXI D ["value"]) := by
  refine F.ok scInvalidTerm (lenXI rfl) (fun cdv A outer s H vs Q E hr h => ?_)
  obtain ⟨mc, rd, at_⟩ := b.rd
  exact ⟨_, pss_cons (ps_expr (pe_bin exb_V rfl b.g rd b.ga at_ (pa_cons (pv 0) (pa_cons pe_str pa_nil)))) (pss_one (ps_oset exb_V (pv 0) (pv 1))), rd1 C.ox (C.nf _ (by simp)) h⟩
theorem scInvalidWeb : FnScope ["self", "value"] ["self", "value"] (defScope iInvalidWeb) := ⟨rfl, rfl, rfl, by decide +kernel, rfl, by decide +kernel, by decide +kernel⟩
theorem okInvalidWeb {f Wb D : Addr} {fd : FuncData} (F : Fun K "__init__" "InvalidWeb.__init__" iInvalidWeb f fd) (b : Bs K mg "WakeError" "ValueError.__init__" Wb) (C : Cf K mg "InvalidWeb" "InvalidWeb.__init__" iInvalidWeb "ValueError.__new__" (tailOf "ValueError") ["value"] D) : FnOk P w K mg base CX0 1 f fd ["self", "value"] (spXI D ["value"]) := by
  refine F.ok scInvalidWeb (lenXI rfl) (fun cdv A outer s H vs Q E hr h => ?_)
  obtain ⟨mc, rd, at_⟩ := b.rd
  exact ⟨_, pss_cons (ps_expr (pe_bin exb_V rfl b.g rd b.ga at_ (pa_cons (pv 0) (pa_cons pe_str pa_nil)))) (pss_one (ps_oset exb_V (pv 0) (pv 1))), rd1 C.ox (C.nf _ (by simp)) h⟩
theorem scInvalidMaker : FnScope ["self", "value"] ["self", "value"] (defScope iInvalidMaker) := ⟨rfl, rfl, rfl, by decide +kernel, rfl, by decide +kernel, by decide +kernel⟩
theorem okInvalidMaker {f Wb D : Addr} {fd : FuncData} (F : Fun K "__init__" "InvalidMaker.__init__" iInvalidMaker f fd) (b : Bs K mg "WakeError" "ValueError.__init__" Wb) (C : Cf K mg "InvalidMaker" "InvalidMaker.__init__" iInvalidMaker "ValueError.__new__" (tailOf "ValueError") ["value"] D) : FnOk P w K mg base CX0 1 f fd ["self", "value"] (spXI D ["value"]) := by
  refine F.ok scInvalidMaker (lenXI rfl) (fun cdv A outer s H vs Q E hr h => ?_)
  obtain ⟨mc, rd, at_⟩ := b.rd
  exact ⟨_, pss_cons (ps_expr (pe_bin exb_V rfl b.g rd b.ga at_ (pa_cons (pv 0) (pa_cons pe_str pa_nil)))) (pss_one (ps_oset exb_V (pv 0) (pv 1))), rd1 C.ox (C.nf _ (by simp)) h⟩
theorem scInvalidChoice : FnScope ["self", "value"] ["self", "value"] (defScope iInvalidChoice) := ⟨rfl, rfl, rfl, by decide +kernel, rfl, by decide +kernel, by decide +kernel⟩
theorem okInvalidChoice {f Wb D : Addr} {fd : FuncData} (F : Fun K "__init__" "InvalidChoice.__init__" iInvalidChoice f fd) (b : Bs K mg "WakeError" "ValueError.__init__" Wb) (C : Cf K mg "InvalidChoice" "InvalidChoice.__init__" iInvalidChoice "ValueError.__new__" (tailOf "ValueError") ["value"] D) : FnOk P w K mg base CX0 1 f fd ["self", "value"] (spXI D ["value"]) := by
  refine F.ok scInvalidChoice (lenXI rfl) (fun cdv A outer s H vs Q E hr h => ?_)
  obtain ⟨mc, rd, at_⟩ := b.rd
  exact ⟨_, pss_cons (ps_expr (pe_bin exb_V rfl b.g rd b.ga at_ (pa_cons (pv 0) (pa_cons pe_str pa_nil)))) (pss_one (ps_oset exb_V (pv 0) (pv 1))), rd1 C.ox (C.nf _ (by simp)) h⟩
theorem scInvalidWish : FnScope ["self", "value"] ["self", "value"] (defScope iInvalidWish) := ⟨rfl, rfl, rfl, by decide +kernel, rfl, by decide +kernel, by decide +kernel⟩
theorem okInvalidWish {f Wb D : Addr} {fd : FuncData} (F : Fun K "__init__" "InvalidWish.__init__" iInvalidWish f fd) (b : Bs K mg "WakeError" "ValueError.__init__" Wb) (C : Cf K mg "InvalidWish" "InvalidWish.__init__" iInvalidWish "ValueError.__new__" (tailOf "ValueError") ["value"] D) : FnOk P w K mg base CX0 1 f fd ["self", "value"] (spXI D ["value"]) := by
  refine F.ok scInvalidWish (lenXI rfl) (fun cdv A outer s H vs Q E hr h => ?_)
  obtain ⟨mc, rd, at_⟩ := b.rd
  exact ⟨_, pss_cons (ps_expr (pe_bin exb_V rfl b.g rd b.ga at_ (pa_cons (pv 0) (pa_cons pe_str pa_nil)))) (pss_one (ps_oset exb_V (pv 0) (pv 1))), rd1 C.ox (C.nf _ (by simp)) h⟩
theorem scInvalidClaim : FnScope ["self", "value"] ["self", "value"] (defScope iInvalidClaim) := ⟨rfl, rfl, rfl, by decide +kernel, rfl, by decide +kernel, by decide +kernel⟩
theorem okInvalidClaim {f Wb D : Addr} {fd : FuncData} (F : Fun K "__init__" "InvalidClaim.__init__" iInvalidClaim f fd) (b : Bs K mg "WakeError" "ValueError.__init__" Wb) (C : Cf K mg "InvalidClaim" "InvalidClaim.__init__" iInvalidClaim "ValueError.__new__" (tailOf "ValueError") ["value"] D) : FnOk P w K mg base CX0 1 f fd ["self", "value"] (spXI D ["value"]) := by
  refine F.ok scInvalidClaim (lenXI rfl) (fun cdv A outer s H vs Q E hr h => ?_)
  obtain ⟨mc, rd, at_⟩ := b.rd
  exact ⟨_, pss_cons (ps_expr (pe_bin exb_V rfl b.g rd b.ga at_ (pa_cons (pv 0) (pa_cons pe_str pa_nil)))) (pss_one (ps_oset exb_V (pv 0) (pv 1))), rd1 C.ox (C.nf _ (by simp)) h⟩
theorem scInvalidName : FnScope ["self", "value"] ["self", "value"] (defScope iInvalidName) := ⟨rfl, rfl, rfl, by decide +kernel, rfl, by decide +kernel, by decide +kernel⟩
theorem okInvalidName {f Wb D : Addr} {fd : FuncData} (F : Fun K "__init__" "InvalidName.__init__" iInvalidName f fd) (b : Bs K mg "WakeError" "ValueError.__init__" Wb) (C : Cf K mg "InvalidName" "InvalidName.__init__" iInvalidName "ValueError.__new__" (tailOf "ValueError") ["value"] D) : FnOk P w K mg base CX0 1 f fd ["self", "value"] (spXI D ["value"]) := by
  refine F.ok scInvalidName (lenXI rfl) (fun cdv A outer s H vs Q E hr h => ?_)
  obtain ⟨mc, rd, at_⟩ := b.rd
  exact ⟨_, pss_cons (ps_expr (pe_bin exb_V rfl b.g rd b.ga at_ (pa_cons (pv 0) (pa_cons pe_str pa_nil)))) (pss_one (ps_oset exb_V (pv 0) (pv 1))), rd1 C.ox (C.nf _ (by simp)) h⟩
theorem scInvalidEntry : FnScope ["self", "value"] ["self", "value"] (defScope iInvalidEntry) := ⟨rfl, rfl, rfl, by decide +kernel, rfl, by decide +kernel, by decide +kernel⟩
theorem okInvalidEntry {f Wb D : Addr} {fd : FuncData} (F : Fun K "__init__" "InvalidEntry.__init__" iInvalidEntry f fd) (b : Bs K mg "WakeError" "ValueError.__init__" Wb) (C : Cf K mg "InvalidEntry" "InvalidEntry.__init__" iInvalidEntry "ValueError.__new__" (tailOf "ValueError") ["value"] D) : FnOk P w K mg base CX0 1 f fd ["self", "value"] (spXI D ["value"]) := by
  refine F.ok scInvalidEntry (lenXI rfl) (fun cdv A outer s H vs Q E hr h => ?_)
  obtain ⟨mc, rd, at_⟩ := b.rd
  exact ⟨_, pss_cons (ps_expr (pe_bin exb_V rfl b.g rd b.ga at_ (pa_cons (pv 0) (pa_cons pe_str pa_nil)))) (pss_one (ps_oset exb_V (pv 0) (pv 1))), rd1 C.ox (C.nf _ (by simp)) h⟩
theorem scInvalidCommand : FnScope ["self", "value"] ["self", "value"] (defScope iInvalidCommand) := ⟨rfl, rfl, rfl, by decide +kernel, rfl, by decide +kernel, by decide +kernel⟩
theorem okInvalidCommand {f Wb D : Addr} {fd : FuncData} (F : Fun K "__init__" "InvalidCommand.__init__" iInvalidCommand f fd) (b : Bs K mg "WakeError" "ValueError.__init__" Wb) (C : Cf K mg "InvalidCommand" "InvalidCommand.__init__" iInvalidCommand "ValueError.__new__" (tailOf "ValueError") ["value"] D) : FnOk P w K mg base CX0 1 f fd ["self", "value"] (spXI D ["value"]) := by
  refine F.ok scInvalidCommand (lenXI rfl) (fun cdv A outer s H vs Q E hr h => ?_)
  obtain ⟨mc, rd, at_⟩ := b.rd
  exact ⟨_, pss_cons (ps_expr (pe_bin exb_V rfl b.g rd b.ga at_ (pa_cons (pv 0) (pa_cons pe_str pa_nil)))) (pss_one (ps_oset exb_V (pv 0) (pv 1))), rd1 C.ox (C.nf _ (by simp)) h⟩
theorem scInvalidWords : FnScope ["self", "position"] ["self", "position"] (defScope iInvalidWords) := ⟨rfl, rfl, rfl, by decide +kernel, rfl, by decide +kernel, by decide +kernel⟩
theorem okInvalidWords {f Wb D : Addr} {fd : FuncData} (F : Fun K "__init__" "InvalidWords.__init__" iInvalidWords f fd) (b : Bs K mg "WakeError" "ValueError.__init__" Wb) (C : Cf K mg "InvalidWords" "InvalidWords.__init__" iInvalidWords "ValueError.__new__" (tailOf "ValueError") ["position"] D) : FnOk P w K mg base CX0 1 f fd ["self", "position"] (spXI D ["position"]) := by
  refine F.ok scInvalidWords (lenXI rfl) (fun cdv A outer s H vs Q E hr h => ?_)
  obtain ⟨mc, rd, at_⟩ := b.rd
  exact ⟨_, pss_cons (ps_expr (pe_bin exb_V rfl b.g rd b.ga at_ (pa_cons (pv 0) (pa_cons pe_str pa_nil)))) (pss_one (ps_oset exb_V (pv 0) (pv 1))), rd1 C.ox (C.nf _ (by simp)) h⟩
theorem scInvalidTriggers : FnScope ["self", "position"] ["self", "position"] (defScope iInvalidTriggers) := ⟨rfl, rfl, rfl, by decide +kernel, rfl, by decide +kernel, by decide +kernel⟩
theorem okInvalidTriggers {f Wb D : Addr} {fd : FuncData} (F : Fun K "__init__" "InvalidTriggers.__init__" iInvalidTriggers f fd) (b : Bs K mg "WakeError" "ValueError.__init__" Wb) (C : Cf K mg "InvalidTriggers" "InvalidTriggers.__init__" iInvalidTriggers "ValueError.__new__" (tailOf "ValueError") ["position"] D) : FnOk P w K mg base CX0 1 f fd ["self", "position"] (spXI D ["position"]) := by
  refine F.ok scInvalidTriggers (lenXI rfl) (fun cdv A outer s H vs Q E hr h => ?_)
  obtain ⟨mc, rd, at_⟩ := b.rd
  exact ⟨_, pss_cons (ps_expr (pe_bin exb_V rfl b.g rd b.ga at_ (pa_cons (pv 0) (pa_cons pe_str pa_nil)))) (pss_one (ps_oset exb_V (pv 0) (pv 1))), rd1 C.ox (C.nf _ (by simp)) h⟩
theorem scInvalidMakes : FnScope ["self", "position"] ["self", "position"] (defScope iInvalidMakes) := ⟨rfl, rfl, rfl, by decide +kernel, rfl, by decide +kernel, by decide +kernel⟩
theorem okInvalidMakes {f Wb D : Addr} {fd : FuncData} (F : Fun K "__init__" "InvalidMakes.__init__" iInvalidMakes f fd) (b : Bs K mg "WakeError" "ValueError.__init__" Wb) (C : Cf K mg "InvalidMakes" "InvalidMakes.__init__" iInvalidMakes "ValueError.__new__" (tailOf "ValueError") ["position"] D) : FnOk P w K mg base CX0 1 f fd ["self", "position"] (spXI D ["position"]) := by
  refine F.ok scInvalidMakes (lenXI rfl) (fun cdv A outer s H vs Q E hr h => ?_)
  obtain ⟨mc, rd, at_⟩ := b.rd
  exact ⟨_, pss_cons (ps_expr (pe_bin exb_V rfl b.g rd b.ga at_ (pa_cons (pv 0) (pa_cons pe_str pa_nil)))) (pss_one (ps_oset exb_V (pv 0) (pv 1))), rd1 C.ox (C.nf _ (by simp)) h⟩
theorem scInvalidSayings : FnScope ["self", "position"] ["self", "position"] (defScope iInvalidSayings) := ⟨rfl, rfl, rfl, by decide +kernel, rfl, by decide +kernel, by decide +kernel⟩
theorem okInvalidSayings {f Wb D : Addr} {fd : FuncData} (F : Fun K "__init__" "InvalidSayings.__init__" iInvalidSayings f fd) (b : Bs K mg "WakeError" "ValueError.__init__" Wb) (C : Cf K mg "InvalidSayings" "InvalidSayings.__init__" iInvalidSayings "ValueError.__new__" (tailOf "ValueError") ["position"] D) : FnOk P w K mg base CX0 1 f fd ["self", "position"] (spXI D ["position"]) := by
  refine F.ok scInvalidSayings (lenXI rfl) (fun cdv A outer s H vs Q E hr h => ?_)
  obtain ⟨mc, rd, at_⟩ := b.rd
  exact ⟨_, pss_cons (ps_expr (pe_bin exb_V rfl b.g rd b.ga at_ (pa_cons (pv 0) (pa_cons pe_str pa_nil)))) (pss_one (ps_oset exb_V (pv 0) (pv 1))), rd1 C.ox (C.nf _ (by simp)) h⟩
theorem scInvalidThings : FnScope ["self", "position"] ["self", "position"] (defScope iInvalidThings) := ⟨rfl, rfl, rfl, by decide +kernel, rfl, by decide +kernel, by decide +kernel⟩
theorem okInvalidThings {f Wb D : Addr} {fd : FuncData} (F : Fun K "__init__" "InvalidThings.__init__" iInvalidThings f fd) (b : Bs K mg "WakeError" "ValueError.__init__" Wb) (C : Cf K mg "InvalidThings" "InvalidThings.__init__" iInvalidThings "ValueError.__new__" (tailOf "ValueError") ["position"] D) : FnOk P w K mg base CX0 1 f fd ["self", "position"] (spXI D ["position"]) := by
  refine F.ok scInvalidThings (lenXI rfl) (fun cdv A outer s H vs Q E hr h => ?_)
  obtain ⟨mc, rd, at_⟩ := b.rd
  exact ⟨_, pss_cons (ps_expr (pe_bin exb_V rfl b.g rd b.ga at_ (pa_cons (pv 0) (pa_cons pe_str pa_nil)))) (pss_one (ps_oset exb_V (pv 0) (pv 1))), rd1 C.ox (C.nf _ (by simp)) h⟩
theorem scInvalidTerms : FnScope ["self", "position"] ["self", "position"] (defScope iInvalidTerms) := ⟨rfl, rfl, rfl, by decide +kernel, rfl, by decide +kernel, by decide +kernel⟩
theorem okInvalidTerms {f Wb D : Addr} {fd : FuncData} (F : Fun K "__init__" "InvalidTerms.__init__" iInvalidTerms f fd) (b : Bs K mg "WakeError" "ValueError.__init__" Wb) (C : Cf K mg "InvalidTerms" "InvalidTerms.__init__" iInvalidTerms "ValueError.__new__" (tailOf "ValueError") ["position"] D) : FnOk P w K mg base CX0 1 f fd ["self", "position"] (spXI D ["position"]) := by
  refine F.ok scInvalidTerms (lenXI rfl) (fun cdv A outer s H vs Q E hr h => ?_)
  obtain ⟨mc, rd, at_⟩ := b.rd
  exact ⟨_, pss_cons (ps_expr (pe_bin exb_V rfl b.g rd b.ga at_ (pa_cons (pv 0) (pa_cons pe_str pa_nil)))) (pss_one (ps_oset exb_V (pv 0) (pv 1))), rd1 C.ox (C.nf _ (by simp)) h⟩
theorem scInvalidPairs : FnScope ["self", "position"] ["self", "position"] (defScope iInvalidPairs) := ⟨rfl, rfl, rfl, by decide +kernel, rfl, by decide +kernel, by decide +kernel⟩
theorem okInvalidPairs {f Wb D : Addr} {fd : FuncData} (F : Fun K "__init__" "InvalidPairs.__init__" iInvalidPairs f fd) (b : Bs K mg "WakeError" "ValueError.__init__" Wb) (C : Cf K mg "InvalidPairs" "InvalidPairs.__init__" iInvalidPairs "ValueError.__new__" (tailOf "ValueError") ["position"] D) : FnOk P w K mg base CX0 1 f fd ["self", "position"] (spXI D ["position"]) := by
  refine F.ok scInvalidPairs (lenXI rfl) (fun cdv A outer s H vs Q E hr h => ?_)
  obtain ⟨mc, rd, at_⟩ := b.rd
  exact ⟨_, pss_cons (ps_expr (pe_bin exb_V rfl b.g rd b.ga at_ (pa_cons (pv 0) (pa_cons pe_str pa_nil)))) (pss_one (ps_oset exb_V (pv 0) (pv 1))), rd1 C.ox (C.nf _ (by simp)) h⟩
theorem scInvalidInstances : FnScope ["self", "position"] ["self", "position"] (defScope iInvalidInstances) := ⟨rfl, rfl, rfl, by decide +kernel, rfl, by decide +kernel, by decide +kernel⟩
theorem okInvalidInstances {f Wb D : Addr} {fd : FuncData} (F : Fun K "__init__" "InvalidInstances.__init__" iInvalidInstances f fd) (b : Bs K mg "WakeError" "ValueError.__init__" Wb) (C : Cf K mg "InvalidInstances" "InvalidInstances.__init__" iInvalidInstances "ValueError.__new__" (tailOf "ValueError") ["position"] D) : FnOk P w K mg base CX0 1 f fd ["self", "position"] (spXI D ["position"]) := by
  refine F.ok scInvalidInstances (lenXI rfl) (fun cdv A outer s H vs Q E hr h => ?_)
  obtain ⟨mc, rd, at_⟩ := b.rd
  exact ⟨_, pss_cons (ps_expr (pe_bin exb_V rfl b.g rd b.ga at_ (pa_cons (pv 0) (pa_cons pe_str pa_nil)))) (pss_one (ps_oset exb_V (pv 0) (pv 1))), rd1 C.ox (C.nf _ (by simp)) h⟩
theorem scInvalidOffers : FnScope ["self", "position"] ["self", "position"] (defScope iInvalidOffers) := ⟨rfl, rfl, rfl, by decide +kernel, rfl, by decide +kernel, by decide +kernel⟩
theorem okInvalidOffers {f Wb D : Addr} {fd : FuncData} (F : Fun K "__init__" "InvalidOffers.__init__" iInvalidOffers f fd) (b : Bs K mg "WakeError" "ValueError.__init__" Wb) (C : Cf K mg "InvalidOffers" "InvalidOffers.__init__" iInvalidOffers "ValueError.__new__" (tailOf "ValueError") ["position"] D) : FnOk P w K mg base CX0 1 f fd ["self", "position"] (spXI D ["position"]) := by
  refine F.ok scInvalidOffers (lenXI rfl) (fun cdv A outer s H vs Q E hr h => ?_)
  obtain ⟨mc, rd, at_⟩ := b.rd
  exact ⟨_, pss_cons (ps_expr (pe_bin exb_V rfl b.g rd b.ga at_ (pa_cons (pv 0) (pa_cons pe_str pa_nil)))) (pss_one (ps_oset exb_V (pv 0) (pv 1))), rd1 C.ox (C.nf _ (by simp)) h⟩
theorem scInvalidText : FnScope ["self", "line"] ["self", "line"] (defScope iInvalidText) := ⟨rfl, rfl, rfl, by decide +kernel, rfl, by decide +kernel, by decide +kernel⟩
theorem okInvalidText {f Wb D : Addr} {fd : FuncData} (F : Fun K "__init__" "InvalidText.__init__" iInvalidText f fd) (b : Bs K mg "WakeError" "ValueError.__init__" Wb) (C : Cf K mg "InvalidText" "InvalidText.__init__" iInvalidText "ValueError.__new__" (tailOf "ValueError") ["line"] D) : FnOk P w K mg base CX0 1 f fd ["self", "line"] (spXI D ["line"]) := by
  refine F.ok scInvalidText (lenXI rfl) (fun cdv A outer s H vs Q E hr h => ?_)
  obtain ⟨mc, rd, at_⟩ := b.rd
  exact ⟨_, pss_cons (ps_expr (pe_bin exb_V rfl b.g rd b.ga at_ (pa_cons (pv 0) (pa_cons pe_str pa_nil)))) (pss_one (ps_oset exb_V (pv 0) (pv 1))), rd1 C.ox (C.nf _ (by simp)) h⟩
theorem scUnknownLetter : FnScope ["self", "value"] ["self", "value"] (defScope iUnknownLetter) := ⟨rfl, rfl, rfl, by decide +kernel, rfl, by decide +kernel, by decide +kernel⟩
theorem okUnknownLetter {f Wb D : Addr} {fd : FuncData} (F : Fun K "__init__" "UnknownLetter.__init__" iUnknownLetter f fd) (b : Bs K mg "MissingError" "LookupError.__init__" Wb) (C : Cf K mg "UnknownLetter" "UnknownLetter.__init__" iUnknownLetter "LookupError.__new__" (tailOf "LookupError") ["value"] D) : FnOk P w K mg base CX0 1 f fd ["self", "value"] (spXI D ["value"]) := by
  refine F.ok scUnknownLetter (lenXI rfl) (fun cdv A outer s H vs Q E hr h => ?_)
  obtain ⟨mc, rd, at_⟩ := b.rd
  exact ⟨_, pss_cons (ps_expr (pe_bin exb_L rfl b.g rd b.ga at_ (pa_cons (pv 0) (pa_cons pe_str pa_nil)))) (pss_one (ps_oset exb_L (pv 0) (pv 1))), rd1 C.ox (C.nf _ (by simp)) h⟩
theorem scUnknownTerm : FnScope ["self", "value"] ["self", "value"] (defScope iUnknownTerm) := ⟨rfl, rfl, rfl, by decide +kernel, rfl, by decide +kernel, by decide +kernel⟩
theorem okUnknownTerm {f Wb D : Addr} {fd : FuncData} (F : Fun K "__init__" "UnknownTerm.__init__" iUnknownTerm f fd) (b : Bs K mg "MissingError" "LookupError.__init__" Wb) (C : Cf K mg "UnknownTerm" "UnknownTerm.__init__" iUnknownTerm "LookupError.__new__" (tailOf "LookupError") ["value"] D) : FnOk P w K mg base CX0 1 f fd ["self", "value"] (spXI D ["value"]) := by
  refine F.ok scUnknownTerm (lenXI rfl) (fun cdv A outer s H vs Q E hr h => ?_)
  obtain ⟨mc, rd, at_⟩ := b.rd
  exact ⟨_, pss_cons (ps_expr (pe_bin exb_L rfl b.g rd b.ga at_ (pa_cons (pv 0) (pa_cons pe_str pa_nil)))) (pss_one (ps_oset exb_L (pv 0) (pv 1))), rd1 C.ox (C.nf _ (by simp)) h⟩
theorem scUnknownName : FnScope ["self", "value"] ["self", "value"] (defScope iUnknownName) := ⟨rfl, rfl, rfl, by decide +kernel, rfl, by decide +kernel, by decide +kernel⟩
theorem okUnknownName {f Wb D : Addr} {fd : FuncData} (F : Fun K "__init__" "UnknownName.__init__" iUnknownName f fd) (b : Bs K mg "MissingError" "LookupError.__init__" Wb) (C : Cf K mg "UnknownName" "UnknownName.__init__" iUnknownName "LookupError.__new__" (tailOf "LookupError") ["value"] D) : FnOk P w K mg base CX0 1 f fd ["self", "value"] (spXI D ["value"]) := by
  refine F.ok scUnknownName (lenXI rfl) (fun cdv A outer s H vs Q E hr h => ?_)
  obtain ⟨mc, rd, at_⟩ := b.rd
  exact ⟨_, pss_cons (ps_expr (pe_bin exb_L rfl b.g rd b.ga at_ (pa_cons (pv 0) (pa_cons pe_str pa_nil)))) (pss_one (ps_oset exb_L (pv 0) (pv 1))), rd1 C.ox (C.nf _ (by simp)) h⟩
theorem scNothingToUndo : FnScope ["self"] ["self"] (defScope iNothingToUndo) := ⟨rfl, rfl, rfl, by decide +kernel, rfl, by decide +kernel, by decide +kernel⟩
theorem okNothingToUndo {f Wb D : Addr} {fd : FuncData} (F : Fun K "__init__" "NothingToUndo.__init__" iNothingToUndo f fd) (b : Bs K mg "MissingError" "LookupError.__init__" Wb) (C : Cf K mg "NothingToUndo" "NothingToUndo.__init__" iNothingToUndo "LookupError.__new__" (tailOf "LookupError") [] D) : FnOk P w K mg base CX0 1 f fd ["self"] (spXI D []) := by
  refine F.ok scNothingToUndo (lenXI rfl) (fun cdv A outer s H vs Q E hr h => ?_)
  obtain ⟨mc, rd, at_⟩ := b.rd
  exact ⟨_, pss_one (ps_expr (pe_bin exb_L rfl b.g rd b.ga at_ (pa_cons (pv 0) (pa_cons pe_str pa_nil)))), rd0 C.ox  h⟩
theorem scCantMake : FnScope ["self", "number", "term"] ["self", "number", "term"] (defScope iCantMake) := ⟨rfl, rfl, rfl, by decide +kernel, rfl, by decide +kernel, by decide +kernel⟩
theorem okCantMake {f Wb D : Addr} {fd : FuncData} (F : Fun K "__init__" "CantMake.__init__" iCantMake f fd) (b : Bs K mg "StateError" "RuntimeError.__init__" Wb) (C : Cf K mg "CantMake" "CantMake.__init__" iCantMake "RuntimeError.__new__" (tailOf "RuntimeError") ["number", "term"] D) : FnOk P w K mg base CX0 1 f fd ["self", "number", "term"] (spXI D ["number", "term"]) := by
  refine F.ok scCantMake (lenXI rfl) (fun cdv A outer s H vs Q E hr h => ?_)
  obtain ⟨mc, rd, at_⟩ := b.rd
  exact ⟨_, pss_cons (ps_expr (pe_bin exb_R rfl b.g rd b.ga at_ (pa_cons (pv 0) (pa_cons pe_str pa_nil)))) (pss_cons (ps_oset exb_R (pv 0) (pv 1)) (pss_one (ps_oset exb_R (pv 0) (pv 2)))), rd2 C.ox (C.nf _ (by simp)) (C.nf _ (by simp)) h⟩
theorem scCommandFailed : FnScope ["self", "position"] ["self", "position"] (defScope iCommandFailed) := ⟨rfl, rfl, rfl, by decide +kernel, rfl, by decide +kernel, by decide +kernel⟩
theorem okCommandFailed {f Wb D : Addr} {fd : FuncData} (F : Fun K "__init__" "CommandFailed.__init__" iCommandFailed f fd) (b : Bs K mg "StateError" "RuntimeError.__init__" Wb) (C : Cf K mg "CommandFailed" "CommandFailed.__init__" iCommandFailed "RuntimeError.__new__" (tailOf "RuntimeError") ["position"] D) : FnOk P w K mg base CX0 1 f fd ["self", "position"] (spXI D ["position"]) := by
  refine F.ok scCommandFailed (lenXI rfl) (fun cdv A outer s H vs Q E hr h => ?_)
  obtain ⟨mc, rd, at_⟩ := b.rd
  exact ⟨_, pss_cons (ps_expr (pe_bin exb_R rfl b.g rd b.ga at_ (pa_cons (pv 0) (pa_cons pe_str pa_nil)))) (pss_one (ps_oset exb_R (pv 0) (pv 1))), rd1 C.ox (C.nf _ (by simp)) h⟩
theorem scTooMany : FnScope ["self", "what", "limit"] ["self", "what", "limit"] (defScope iTooMany) := ⟨rfl, rfl, rfl, by decide +kernel, rfl, by decide +kernel, by decide +kernel⟩
theorem okTooMany {f Wb D : Addr} {fd : FuncData} (F : Fun K "__init__" "TooMany.__init__" iTooMany f fd) (b : Bs K mg "LimitError" "ArithmeticError.__init__" Wb) (C : Cf K mg "TooMany" "TooMany.__init__" iTooMany "ArithmeticError.__new__" (tailOf "ArithmeticError") ["what", "limit"] D) : FnOk P w K mg base CX0 1 f fd ["self", "what", "limit"] (spXI D ["what", "limit"]) := by
  refine F.ok scTooMany (lenXI rfl) (fun cdv A outer s H vs Q E hr h => ?_)
  obtain ⟨mc, rd, at_⟩ := b.rd
  exact ⟨_, pss_cons (ps_expr (pe_bin exb_A rfl b.g rd b.ga at_ (pa_cons (pv 0) (pa_cons pe_str pa_nil)))) (pss_cons (ps_oset exb_A (pv 0) (pv 1)) (pss_one (ps_oset exb_A (pv 0) (pv 2)))), rd2 C.ox (C.nf _ (by simp)) (C.nf _ (by simp)) h⟩
end
end K16

set_option Elab.async false
set_option linter.all false
set_option maxRecDepth 100000
set_option maxHeartbeats 4000000
namespace K16
open PySem PySem.Spec PyProof.Rows L2 PD
theorem sz {n : Nat} (h : Nat.ble n 1000 = true) : n ≤ sizeLine := Nat.le_trans (Nat.le_of_ble_eq_true h) (by rw [sizeLine_eq]; decide)
theorem len2 {α : Type} {ds : List α} (h : ds.length = 2) : ∃ a b, ds = [a, b] := match ds, h with | [a, b], _ => ⟨a, b, rfl⟩
/-- a class that is called -/
structure Cl (P : Program) (w : World) (K : PySem.W.Frag) (mg : Str → Option Value) (base : Heap) (nm : Str) (B newId initId : String) (fs : List Str) (C : Addr) : Prop where
  eb : ExB B newId initId (tailOf B)
  g : mg nm = some (.ref C)
  ox : OxB K C newId (tailOf B)
  nf : ∀ f ∈ fs, PySem.W.findIn K (.ref C) f = some none
  call : ∃ fI fd, PySem.W.findIn K (.ref C) "__init__" = some (some (.ref fI)) ∧ PySem.W.typeIn K (.ref fI) = some (.type "function") ∧ FnOk P w K mg base CX0 1 fI fd ("self" :: fs) (spXI C fs) ∧
    Binds K fd ("self" :: fs) [] ∧ KBinds K fd ("self" :: fs) fs.reverse (kgr fs.length) (kgr fs.length)
section
variable {X : Cx} {x : Str} {p pos : Pos} {B newId initId : String} {fs : List Str} {C : Addr} {e : Expr} {es : List Expr} {ta tk : TA} {kws : List Keyword}
theorem pe_cl (c : Cl X.prog X.w X.K X.mg X.base x B newId initId fs C) (hr : Room 2 X.A) (hx : Passes CX0 X (fun _ _ _ => False)) (hg : Gl X x) (ha : PA X (e :: es) ta)
    (hdb : (x == ("__debug__" : Str)) = false := by decide) (he : starEach (e :: es) X.env = (false, eval e X.env) :: starEach es X.env := by rfl) (hpl : (backTo pos (starEach es X.env)).any (·.1) = false := by rfl) :
    PE X (.Call (.Name x p) (e :: es) [] pos) (tMkV C (spXI C fs) (fun vs _ => vs) ta tNil) := by
  obtain ⟨fI, fd, i, t, F, b, _⟩ := c.call
  exact pe_mkE c.eb c.ox i t F hr b hx hg c.g ha hdb he hpl
theorem pe_cl0 (c : Cl X.prog X.w X.K X.mg X.base x B newId initId fs C) (hr : Room 2 X.A) (hx : Passes CX0 X (fun _ _ _ => False)) (hg : Gl X x) (hdb : (x == ("__debug__" : Str)) = false := by decide) :
    PE X (.Call (.Name x p) [] [] pos) (tMkV C (spXI C fs) (fun vs _ => vs) tNil tNil) := by
  obtain ⟨fI, fd, i, t, F, b, _⟩ := c.call
  exact pe_mkE0 c.eb c.ox i t F hr b hx hg c.g hdb
theorem pe_clK (c : Cl X.prog X.w X.K X.mg X.base x B newId initId fs C) (hr : Room 2 X.A) (hx : Passes CX0 X (fun _ _ _ => False)) (hg : Gl X x) (hkw : PK X kws tk)
    (hall : (backToKw pos (keywordEach kws X.env)).all (·.1.isSome) = true := by rfl) (hks : (backToKw pos (keywordEach kws X.env)).filterMap (·.1) = fs.reverse := by rfl)
    (hdb : (x == ("__debug__" : Str)) = false := by decide) (hpl : ((backTo pos (starEach [] X.env)).any (·.1) || (backToKw pos (keywordEach kws X.env)).any (·.1.isNone)) = false := by rfl) :
    PE X (.Call (.Name x p) [] kws pos) (tMkV C (spXI C fs) (kgr fs.length) tNil tk) := by
  obtain ⟨fI, fd, i, t, F, _, b⟩ := c.call
  exact pe_mkEK c.eb c.ox i t F hr b hx hg c.g hkw hall hks hdb hpl
end
structure Df (K : PySem.W.Frag) (mg : Str → Option Value) (x : Str) (st : Stmt) (ps : List Str) (f : Addr) (fd : FuncData) : Prop where
  F : Fun K x x st f fd
  m : mg x = some (.ref f)
  b : Binds K fd ps []
section
variable {P : Program} {w : World} {K : PySem.W.Frag} {mg : Str → Option Value} {base : Heap}
theorem clInvalidLetter {Wb D : Addr} (b : Bs K mg "WakeError" "ValueError.__init__" Wb) (C : Cf K mg "InvalidLetter" "InvalidLetter.__init__" iInvalidLetter "ValueError.__new__" (tailOf "ValueError") ["value"] D) : Cl P w K mg base "InvalidLetter" "ValueError" "ValueError.__new__" "ValueError.__init__" ["value"] D := by
  refine ⟨exb_V, C.g, C.ox, C.nf, ?_⟩
  obtain ⟨fI, fd, i, t, F⟩ := C.ini
  refine ⟨fI, fd, i, t, okInvalidLetter F b C, F.binds (fun _ _ _ _ _ _ us hl => match us, hl with | [_, _], _ => rfl), ?_⟩
  obtain ⟨_, _, _, _, _, _, _, _, _, rfl, _, _⟩ := F.ex
  exact ⟨fun s us ws _ hl => by
    obtain ⟨a, rfl, hw⟩ := kgr_len hl
    match ws, hw with
    | [_], _ => exact .of_eq rfl, kgr_rel⟩
theorem clInvalidWord {Wb D : Addr} (b : Bs K mg "WakeError" "ValueError.__init__" Wb) (C : Cf K mg "InvalidWord" "InvalidWord.__init__" iInvalidWord "ValueError.__new__" (tailOf "ValueError") ["value"] D) : Cl P w K mg base "InvalidWord" "ValueError" "ValueError.__new__" "ValueError.__init__" ["value"] D := by
  refine ⟨exb_V, C.g, C.ox, C.nf, ?_⟩
  obtain ⟨fI, fd, i, t, F⟩ := C.ini
  refine ⟨fI, fd, i, t, okInvalidWord F b C, F.binds (fun _ _ _ _ _ _ us hl => match us, hl with | [_, _], _ => rfl), ?_⟩
  obtain ⟨_, _, _, _, _, _, _, _, _, rfl, _, _⟩ := F.ex
  exact ⟨fun s us ws _ hl => by
    obtain ⟨a, rfl, hw⟩ := kgr_len hl
    match ws, hw with
    | [_], _ => exact .of_eq rfl, kgr_rel⟩
theorem clInvalidNumber {Wb D : Addr} (b : Bs K mg "WakeError" "ValueError.__init__" Wb) (C : Cf K mg "InvalidNumber" "InvalidNumber.__init__" iInvalidNumber "ValueError.__new__" (tailOf "ValueError") ["value"] D) : Cl P w K mg base "InvalidNumber" "ValueError" "ValueError.__new__" "ValueError.__init__" ["value"] D := by
  refine ⟨exb_V, C.g, C.ox, C.nf, ?_⟩
  obtain ⟨fI, fd, i, t, F⟩ := C.ini
  refine ⟨fI, fd, i, t, okInvalidNumber F b C, F.binds (fun _ _ _ _ _ _ us hl => match us, hl with | [_, _], _ => rfl), ?_⟩
  obtain ⟨_, _, _, _, _, _, _, _, _, rfl, _, _⟩ := F.ex
  exact ⟨fun s us ws _ hl => by
    obtain ⟨a, rfl, hw⟩ := kgr_len hl
    match ws, hw with
    | [_], _ => exact .of_eq rfl, kgr_rel⟩
theorem clInvalidFront {Wb D : Addr} (b : Bs K mg "WakeError" "ValueError.__init__" Wb) (C : Cf K mg "InvalidFront" "InvalidFront.__init__" iInvalidFront "ValueError.__new__" (tailOf "ValueError") ["value"] D) : Cl P w K mg base "InvalidFront" "ValueError" "ValueError.__new__" "ValueError.__init__" ["value"] D := by
  refine ⟨exb_V, C.g, C.ox, C.nf, ?_⟩
  obtain ⟨fI, fd, i, t, F⟩ := C.ini
  refine ⟨fI, fd, i, t, okInvalidFront F b C, F.binds (fun _ _ _ _ _ _ us hl => match us, hl with | [_, _], _ => rfl), ?_⟩
  obtain ⟨_, _, _, _, _, _, _, _, _, rfl, _, _⟩ := F.ex
  exact ⟨fun s us ws _ hl => by
    obtain ⟨a, rfl, hw⟩ := kgr_len hl
    match ws, hw with
    | [_], _ => exact .of_eq rfl, kgr_rel⟩
theorem clInvalidSaying {Wb D : Addr} (b : Bs K mg "WakeError" "ValueError.__init__" Wb) (C : Cf K mg "InvalidSaying" "InvalidSaying.__init__" iInvalidSaying "ValueError.__new__" (tailOf "ValueError") ["value"] D) : Cl P w K mg base "InvalidSaying" "ValueError" "ValueError.__new__" "ValueError.__init__" ["value"] D := by
  refine ⟨exb_V, C.g, C.ox, C.nf, ?_⟩
  obtain ⟨fI, fd, i, t, F⟩ := C.ini
  refine ⟨fI, fd, i, t, okInvalidSaying F b C, F.binds (fun _ _ _ _ _ _ us hl => match us, hl with | [_, _], _ => rfl), ?_⟩
  obtain ⟨_, _, _, _, _, _, _, _, _, rfl, _, _⟩ := F.ex
  exact ⟨fun s us ws _ hl => by
    obtain ⟨a, rfl, hw⟩ := kgr_len hl
    match ws, hw with
    | [_], _ => exact .of_eq rfl, kgr_rel⟩
theorem clInvalidBook {Wb D : Addr} (b : Bs K mg "WakeError" "ValueError.__init__" Wb) (C : Cf K mg "InvalidBook" "InvalidBook.__init__" iInvalidBook "ValueError.__new__" (tailOf "ValueError") ["value"] D) : Cl P w K mg base "InvalidBook" "ValueError" "ValueError.__new__" "ValueError.__init__" ["value"] D := by
  refine ⟨exb_V, C.g, C.ox, C.nf, ?_⟩
  obtain ⟨fI, fd, i, t, F⟩ := C.ini
  refine ⟨fI, fd, i, t, okInvalidBook F b C, F.binds (fun _ _ _ _ _ _ us hl => match us, hl with | [_, _], _ => rfl), ?_⟩
  obtain ⟨_, _, _, _, _, _, _, _, _, rfl, _, _⟩ := F.ex
  exact ⟨fun s us ws _ hl => by
    obtain ⟨a, rfl, hw⟩ := kgr_len hl
    match ws, hw with
    | [_], _ => exact .of_eq rfl, kgr_rel⟩
theorem clInvalidTerm {Wb D : Addr} (b : Bs K mg "WakeError" "ValueError.__init__" Wb) (C : Cf K mg "InvalidTerm" "InvalidTerm.__init__" iInvalidTerm "ValueError.__new__" (tailOf "ValueError") ["value"] D) : Cl P w K mg base "InvalidTerm" "ValueError" "ValueError.__new__" "ValueError.__init__" ["value"] D := by
  refine ⟨exb_V, C.g, C.ox, C.nf, ?_⟩
  obtain ⟨fI, fd, i, t, F⟩ := C.ini
  refine ⟨fI, fd, i, t, okInvalidTerm F b C, F.binds (fun _ _ _ _ _ _ us hl => match us, hl with | [_, _], _ => rfl), ?_⟩
  obtain ⟨_, _, _, _, _, _, _, _, _, rfl, _, _⟩ := F.ex
  exact ⟨fun s us ws _ hl => by
    obtain ⟨a, rfl, hw⟩ := kgr_len hl
    match ws, hw with
    | [_], _ => exact .of_eq rfl, kgr_rel⟩
theorem clInvalidWeb {Wb D : Addr} (b : Bs K mg "WakeError" "ValueError.__init__" Wb) (C : Cf K mg "InvalidWeb" "InvalidWeb.__init__" iInvalidWeb "ValueError.__new__" (tailOf "ValueError") ["value"] D) : Cl P w K mg base "InvalidWeb" "ValueError" "ValueError.__new__" "ValueError.__init__" ["value"] D := by
  refine ⟨exb_V, C.g, C.ox, C.nf, ?_⟩
  obtain ⟨fI, fd, i, t, F⟩ := C.ini
  refine ⟨fI, fd, i, t, okInvalidWeb F b C, F.binds (fun _ _ _ _ _ _ us hl => match us, hl with | [_, _], _ => rfl), ?_⟩
  obtain ⟨_, _, _, _, _, _, _, _, _, rfl, _, _⟩ := F.ex
  exact ⟨fun s us ws _ hl => by
    obtain ⟨a, rfl, hw⟩ := kgr_len hl
    match ws, hw with
    | [_], _ => exact .of_eq rfl, kgr_rel⟩
theorem clInvalidMaker {Wb D : Addr} (b : Bs K mg "WakeError" "ValueError.__init__" Wb) (C : Cf K mg "InvalidMaker" "InvalidMaker.__init__" iInvalidMaker "ValueError.__new__" (tailOf "ValueError") ["value"] D) : Cl P w K mg base "InvalidMaker" "ValueError" "ValueError.__new__" "ValueError.__init__" ["value"] D := by
  refine ⟨exb_V, C.g, C.ox, C.nf, ?_⟩
  obtain ⟨fI, fd, i, t, F⟩ := C.ini
  refine ⟨fI, fd, i, t, okInvalidMaker F b C, F.binds (fun _ _ _ _ _ _ us hl => match us, hl with | [_, _], _ => rfl), ?_⟩
  obtain ⟨_, _, _, _, _, _, _, _, _, rfl, _, _⟩ := F.ex
  exact ⟨fun s us ws _ hl => by
    obtain ⟨a, rfl, hw⟩ := kgr_len hl
    match ws, hw with
    | [_], _ => exact .of_eq rfl, kgr_rel⟩
theorem clInvalidChoice {Wb D : Addr} (b : Bs K mg "WakeError" "ValueError.__init__" Wb) (C : Cf K mg "InvalidChoice" "InvalidChoice.__init__" iInvalidChoice "ValueError.__new__" (tailOf "ValueError") ["value"] D) : Cl P w K mg base "InvalidChoice" "ValueError" "ValueError.__new__" "ValueError.__init__" ["value"] D := by
  refine ⟨exb_V, C.g, C.ox, C.nf, ?_⟩
  obtain ⟨fI, fd, i, t, F⟩ := C.ini
  refine ⟨fI, fd, i, t, okInvalidChoice F b C, F.binds (fun _ _ _ _ _ _ us hl => match us, hl with | [_, _], _ => rfl), ?_⟩
  obtain ⟨_, _, _, _, _, _, _, _, _, rfl, _, _⟩ := F.ex
  exact ⟨fun s us ws _ hl => by
    obtain ⟨a, rfl, hw⟩ := kgr_len hl
    match ws, hw with
    | [_], _ => exact .of_eq rfl, kgr_rel⟩
theorem clInvalidWish {Wb D : Addr} (b : Bs K mg "WakeError" "ValueError.__init__" Wb) (C : Cf K mg "InvalidWish" "InvalidWish.__init__" iInvalidWish "ValueError.__new__" (tailOf "ValueError") ["value"] D) : Cl P w K mg base "InvalidWish" "ValueError" "ValueError.__new__" "ValueError.__init__" ["value"] D := by
  refine ⟨exb_V, C.g, C.ox, C.nf, ?_⟩
  obtain ⟨fI, fd, i, t, F⟩ := C.ini
  refine ⟨fI, fd, i, t, okInvalidWish F b C, F.binds (fun _ _ _ _ _ _ us hl => match us, hl with | [_, _], _ => rfl), ?_⟩
  obtain ⟨_, _, _, _, _, _, _, _, _, rfl, _, _⟩ := F.ex
  exact ⟨fun s us ws _ hl => by
    obtain ⟨a, rfl, hw⟩ := kgr_len hl
    match ws, hw with
    | [_], _ => exact .of_eq rfl, kgr_rel⟩
theorem clInvalidClaim {Wb D : Addr} (b : Bs K mg "WakeError" "ValueError.__init__" Wb) (C : Cf K mg "InvalidClaim" "InvalidClaim.__init__" iInvalidClaim "ValueError.__new__" (tailOf "ValueError") ["value"] D) : Cl P w K mg base "InvalidClaim" "ValueError" "ValueError.__new__" "ValueError.__init__" ["value"] D := by
  refine ⟨exb_V, C.g, C.ox, C.nf, ?_⟩
  obtain ⟨fI, fd, i, t, F⟩ := C.ini
  refine ⟨fI, fd, i, t, okInvalidClaim F b C, F.binds (fun _ _ _ _ _ _ us hl => match us, hl with | [_, _], _ => rfl), ?_⟩
  obtain ⟨_, _, _, _, _, _, _, _, _, rfl, _, _⟩ := F.ex
  exact ⟨fun s us ws _ hl => by
    obtain ⟨a, rfl, hw⟩ := kgr_len hl
    match ws, hw with
    | [_], _ => exact .of_eq rfl, kgr_rel⟩
theorem clInvalidName {Wb D : Addr} (b : Bs K mg "WakeError" "ValueError.__init__" Wb) (C : Cf K mg "InvalidName" "InvalidName.__init__" iInvalidName "ValueError.__new__" (tailOf "ValueError") ["value"] D) : Cl P w K mg base "InvalidName" "ValueError" "ValueError.__new__" "ValueError.__init__" ["value"] D := by
  refine ⟨exb_V, C.g, C.ox, C.nf, ?_⟩
  obtain ⟨fI, fd, i, t, F⟩ := C.ini
  refine ⟨fI, fd, i, t, okInvalidName F b C, F.binds (fun _ _ _ _ _ _ us hl => match us, hl with | [_, _], _ => rfl), ?_⟩
  obtain ⟨_, _, _, _, _, _, _, _, _, rfl, _, _⟩ := F.ex
  exact ⟨fun s us ws _ hl => by
    obtain ⟨a, rfl, hw⟩ := kgr_len hl
    match ws, hw with
    | [_], _ => exact .of_eq rfl, kgr_rel⟩
theorem clInvalidEntry {Wb D : Addr} (b : Bs K mg "WakeError" "ValueError.__init__" Wb) (C : Cf K mg "InvalidEntry" "InvalidEntry.__init__" iInvalidEntry "ValueError.__new__" (tailOf "ValueError") ["value"] D) : Cl P w K mg base "InvalidEntry" "ValueError" "ValueError.__new__" "ValueError.__init__" ["value"] D := by
  refine ⟨exb_V, C.g, C.ox, C.nf, ?_⟩
  obtain ⟨fI, fd, i, t, F⟩ := C.ini
  refine ⟨fI, fd, i, t, okInvalidEntry F b C, F.binds (fun _ _ _ _ _ _ us hl => match us, hl with | [_, _], _ => rfl), ?_⟩
  obtain ⟨_, _, _, _, _, _, _, _, _, rfl, _, _⟩ := F.ex
  exact ⟨fun s us ws _ hl => by
    obtain ⟨a, rfl, hw⟩ := kgr_len hl
    match ws, hw with
    | [_], _ => exact .of_eq rfl, kgr_rel⟩
theorem clInvalidCommand {Wb D : Addr} (b : Bs K mg "WakeError" "ValueError.__init__" Wb) (C : Cf K mg "InvalidCommand" "InvalidCommand.__init__" iInvalidCommand "ValueError.__new__" (tailOf "ValueError") ["value"] D) : Cl P w K mg base "InvalidCommand" "ValueError" "ValueError.__new__" "ValueError.__init__" ["value"] D := by
  refine ⟨exb_V, C.g, C.ox, C.nf, ?_⟩
  obtain ⟨fI, fd, i, t, F⟩ := C.ini
  refine ⟨fI, fd, i, t, okInvalidCommand F b C, F.binds (fun _ _ _ _ _ _ us hl => match us, hl with | [_, _], _ => rfl), ?_⟩
  obtain ⟨_, _, _, _, _, _, _, _, _, rfl, _, _⟩ := F.ex
  exact ⟨fun s us ws _ hl => by
    obtain ⟨a, rfl, hw⟩ := kgr_len hl
    match ws, hw with
    | [_], _ => exact .of_eq rfl, kgr_rel⟩
theorem clInvalidWords {Wb D : Addr} (b : Bs K mg "WakeError" "ValueError.__init__" Wb) (C : Cf K mg "InvalidWords" "InvalidWords.__init__" iInvalidWords "ValueError.__new__" (tailOf "ValueError") ["position"] D) : Cl P w K mg base "InvalidWords" "ValueError" "ValueError.__new__" "ValueError.__init__" ["position"] D := by
  refine ⟨exb_V, C.g, C.ox, C.nf, ?_⟩
  obtain ⟨fI, fd, i, t, F⟩ := C.ini
  refine ⟨fI, fd, i, t, okInvalidWords F b C, F.binds (fun _ _ _ _ _ _ us hl => match us, hl with | [_, _], _ => rfl), ?_⟩
  obtain ⟨_, _, _, _, _, _, _, _, _, rfl, _, _⟩ := F.ex
  exact ⟨fun s us ws _ hl => by
    obtain ⟨a, rfl, hw⟩ := kgr_len hl
    match ws, hw with
    | [_], _ => exact .of_eq rfl, kgr_rel⟩
theorem clInvalidTriggers {Wb D : Addr} (b : Bs K mg "WakeError" "ValueError.__init__" Wb) (C : Cf K mg "InvalidTriggers" "InvalidTriggers.__init__" iInvalidTriggers "ValueError.__new__" (tailOf "ValueError") ["position"] D) : Cl P w K mg base "InvalidTriggers" "ValueError" "ValueError.__new__" "ValueError.__init__" ["position"] D := by
  refine ⟨exb_V, C.g, C.ox, C.nf, ?_⟩
  obtain ⟨fI, fd, i, t, F⟩ := C.ini
  refine ⟨fI, fd, i, t, okInvalidTriggers F b C, F.binds (fun _ _ _ _ _ _ us hl => match us, hl with | [_, _], _ => rfl), ?_⟩
  obtain ⟨_, _, _, _, _, _, _, _, _, rfl, _, _⟩ := F.ex
  exact ⟨fun s us ws _ hl => by
    obtain ⟨a, rfl, hw⟩ := kgr_len hl
    match ws, hw with
    | [_], _ => exact .of_eq rfl, kgr_rel⟩
theorem clInvalidMakes {Wb D : Addr} (b : Bs K mg "WakeError" "ValueError.__init__" Wb) (C : Cf K mg "InvalidMakes" "InvalidMakes.__init__" iInvalidMakes "ValueError.__new__" (tailOf "ValueError") ["position"] D) : Cl P w K mg base "InvalidMakes" "ValueError" "ValueError.__new__" "ValueError.__init__" ["position"] D := by
  refine ⟨exb_V, C.g, C.ox, C.nf, ?_⟩
  obtain ⟨fI, fd, i, t, F⟩ := C.ini
  refine ⟨fI, fd, i, t, okInvalidMakes F b C, F.binds (fun _ _ _ _ _ _ us hl => match us, hl with | [_, _], _ => rfl), ?_⟩
  obtain ⟨_, _, _, _, _, _, _, _, _, rfl, _, _⟩ := F.ex
  exact ⟨fun s us ws _ hl => by
    obtain ⟨a, rfl, hw⟩ := kgr_len hl
    match ws, hw with
    | [_], _ => exact .of_eq rfl, kgr_rel⟩
theorem clInvalidSayings {Wb D : Addr} (b : Bs K mg "WakeError" "ValueError.__init__" Wb) (C : Cf K mg "InvalidSayings" "InvalidSayings.__init__" iInvalidSayings "ValueError.__new__" (tailOf "ValueError") ["position"] D) : Cl P w K mg base "InvalidSayings" "ValueError" "ValueError.__new__" "ValueError.__init__" ["position"] D := by
  refine ⟨exb_V, C.g, C.ox, C.nf, ?_⟩
  obtain ⟨fI, fd, i, t, F⟩ := C.ini
  refine ⟨fI, fd, i, t, okInvalidSayings F b C, F.binds (fun _ _ _ _ _ _ us hl => match us, hl with | [_, _], _ => rfl), ?_⟩
  obtain ⟨_, _, _, _, _, _, _, _, _, rfl, _, _⟩ := F.ex
  exact ⟨fun s us ws _ hl => by
    obtain ⟨a, rfl, hw⟩ := kgr_len hl
    match ws, hw with
    | [_], _ => exact .of_eq rfl, kgr_rel⟩
theorem clInvalidThings {Wb D : Addr} (b : Bs K mg "WakeError" "ValueError.__init__" Wb) (C : Cf K mg "InvalidThings" "InvalidThings.__init__" iInvalidThings "ValueError.__new__" (tailOf "ValueError") ["position"] D) : Cl P w K mg base "InvalidThings" "ValueError" "ValueError.__new__" "ValueError.__init__" ["position"] D := by
  refine ⟨exb_V, C.g, C.ox, C.nf, ?_⟩
  obtain ⟨fI, fd, i, t, F⟩ := C.ini
  refine ⟨fI, fd, i, t, okInvalidThings F b C, F.binds (fun _ _ _ _ _ _ us hl => match us, hl with | [_, _], _ => rfl), ?_⟩
  obtain ⟨_, _, _, _, _, _, _, _, _, rfl, _, _⟩ := F.ex
  exact ⟨fun s us ws _ hl => by
    obtain ⟨a, rfl, hw⟩ := kgr_len hl
    match ws, hw with
    | [_], _ => exact .of_eq rfl, kgr_rel⟩
theorem clInvalidTerms {Wb D : Addr} (b : Bs K mg "WakeError" "ValueError.__init__" Wb) (C : Cf K mg "InvalidTerms" "InvalidTerms.__init__" iInvalidTerms "ValueError.__new__" (tailOf "ValueError") ["position"] D) : Cl P w K mg base "InvalidTerms" "ValueError" "ValueError.__new__" "ValueError.__init__" ["position"] D := by
  refine ⟨exb_V, C.g, C.ox, C.nf, ?_⟩
  obtain ⟨fI, fd, i, t, F⟩ := C.ini
  refine ⟨fI, fd, i, t, okInvalidTerms F b C, F.binds (fun _ _ _ _ _ _ us hl => match us, hl with | [_, _], _ => rfl), ?_⟩
  obtain ⟨_, _, _, _, _, _, _, _, _, rfl, _, _⟩ := F.ex
  exact ⟨fun s us ws _ hl => by
    obtain ⟨a, rfl, hw⟩ := kgr_len hl
    match ws, hw with
    | [_], _ => exact .of_eq rfl, kgr_rel⟩
theorem clInvalidPairs {Wb D : Addr} (b : Bs K mg "WakeError" "ValueError.__init__" Wb) (C : Cf K mg "InvalidPairs" "InvalidPairs.__init__" iInvalidPairs "ValueError.__new__" (tailOf "ValueError") ["position"] D) : Cl P w K mg base "InvalidPairs" "ValueError" "ValueError.__new__" "ValueError.__init__" ["position"] D := by
  refine ⟨exb_V, C.g, C.ox, C.nf, ?_⟩
  obtain ⟨fI, fd, i, t, F⟩ := C.ini
  refine ⟨fI, fd, i, t, okInvalidPairs F b C, F.binds (fun _ _ _ _ _ _ us hl => match us, hl with | [_, _], _ => rfl), ?_⟩
  obtain ⟨_, _, _, _, _, _, _, _, _, rfl, _, _⟩ := F.ex
  exact ⟨fun s us ws _ hl => by
    obtain ⟨a, rfl, hw⟩ := kgr_len hl
    match ws, hw with
    | [_], _ => exact .of_eq rfl, kgr_rel⟩
theorem clInvalidInstances {Wb D : Addr} (b : Bs K mg "WakeError" "ValueError.__init__" Wb) (C : Cf K mg "InvalidInstances" "InvalidInstances.__init__" iInvalidInstances "ValueError.__new__" (tailOf "ValueError") ["position"] D) : Cl P w K mg base "InvalidInstances" "ValueError" "ValueError.__new__" "ValueError.__init__" ["position"] D := by
  refine ⟨exb_V, C.g, C.ox, C.nf, ?_⟩
  obtain ⟨fI, fd, i, t, F⟩ := C.ini
  refine ⟨fI, fd, i, t, okInvalidInstances F b C, F.binds (fun _ _ _ _ _ _ us hl => match us, hl with | [_, _], _ => rfl), ?_⟩
  obtain ⟨_, _, _, _, _, _, _, _, _, rfl, _, _⟩ := F.ex
  exact ⟨fun s us ws _ hl => by
    obtain ⟨a, rfl, hw⟩ := kgr_len hl
    match ws, hw with
    | [_], _ => exact .of_eq rfl, kgr_rel⟩
theorem clInvalidOffers {Wb D : Addr} (b : Bs K mg "WakeError" "ValueError.__init__" Wb) (C : Cf K mg "InvalidOffers" "InvalidOffers.__init__" iInvalidOffers "ValueError.__new__" (tailOf "ValueError") ["position"] D) : Cl P w K mg base "InvalidOffers" "ValueError" "ValueError.__new__" "ValueError.__init__" ["position"] D := by
  refine ⟨exb_V, C.g, C.ox, C.nf, ?_⟩
  obtain ⟨fI, fd, i, t, F⟩ := C.ini
  refine ⟨fI, fd, i, t, okInvalidOffers F b C, F.binds (fun _ _ _ _ _ _ us hl => match us, hl with | [_, _], _ => rfl), ?_⟩
  obtain ⟨_, _, _, _, _, _, _, _, _, rfl, _, _⟩ := F.ex
  exact ⟨fun s us ws _ hl => by
    obtain ⟨a, rfl, hw⟩ := kgr_len hl
    match ws, hw with
    | [_], _ => exact .of_eq rfl, kgr_rel⟩
theorem clInvalidText {Wb D : Addr} (b : Bs K mg "WakeError" "ValueError.__init__" Wb) (C : Cf K mg "InvalidText" "InvalidText.__init__" iInvalidText "ValueError.__new__" (tailOf "ValueError") ["line"] D) : Cl P w K mg base "InvalidText" "ValueError" "ValueError.__new__" "ValueError.__init__" ["line"] D := by
  refine ⟨exb_V, C.g, C.ox, C.nf, ?_⟩
  obtain ⟨fI, fd, i, t, F⟩ := C.ini
  refine ⟨fI, fd, i, t, okInvalidText F b C, F.binds (fun _ _ _ _ _ _ us hl => match us, hl with | [_, _], _ => rfl), ?_⟩
  obtain ⟨_, _, _, _, _, _, _, _, _, rfl, _, _⟩ := F.ex
  exact ⟨fun s us ws _ hl => by
    obtain ⟨a, rfl, hw⟩ := kgr_len hl
    match ws, hw with
    | [_], _ => exact .of_eq rfl, kgr_rel⟩
theorem clUnknownLetter {Wb D : Addr} (b : Bs K mg "MissingError" "LookupError.__init__" Wb) (C : Cf K mg "UnknownLetter" "UnknownLetter.__init__" iUnknownLetter "LookupError.__new__" (tailOf "LookupError") ["value"] D) : Cl P w K mg base "UnknownLetter" "LookupError" "LookupError.__new__" "LookupError.__init__" ["value"] D := by
  refine ⟨exb_L, C.g, C.ox, C.nf, ?_⟩
  obtain ⟨fI, fd, i, t, F⟩ := C.ini
  refine ⟨fI, fd, i, t, okUnknownLetter F b C, F.binds (fun _ _ _ _ _ _ us hl => match us, hl with | [_, _], _ => rfl), ?_⟩
  obtain ⟨_, _, _, _, _, _, _, _, _, rfl, _, _⟩ := F.ex
  exact ⟨fun s us ws _ hl => by
    obtain ⟨a, rfl, hw⟩ := kgr_len hl
    match ws, hw with
    | [_], _ => exact .of_eq rfl, kgr_rel⟩
theorem clUnknownTerm {Wb D : Addr} (b : Bs K mg "MissingError" "LookupError.__init__" Wb) (C : Cf K mg "UnknownTerm" "UnknownTerm.__init__" iUnknownTerm "LookupError.__new__" (tailOf "LookupError") ["value"] D) : Cl P w K mg base "UnknownTerm" "LookupError" "LookupError.__new__" "LookupError.__init__" ["value"] D := by
  refine ⟨exb_L, C.g, C.ox, C.nf, ?_⟩
  obtain ⟨fI, fd, i, t, F⟩ := C.ini
  refine ⟨fI, fd, i, t, okUnknownTerm F b C, F.binds (fun _ _ _ _ _ _ us hl => match us, hl with | [_, _], _ => rfl), ?_⟩
  obtain ⟨_, _, _, _, _, _, _, _, _, rfl, _, _⟩ := F.ex
  exact ⟨fun s us ws _ hl => by
    obtain ⟨a, rfl, hw⟩ := kgr_len hl
    match ws, hw with
    | [_], _ => exact .of_eq rfl, kgr_rel⟩
theorem clUnknownName {Wb D : Addr} (b : Bs K mg "MissingError" "LookupError.__init__" Wb) (C : Cf K mg "UnknownName" "UnknownName.__init__" iUnknownName "LookupError.__new__" (tailOf "LookupError") ["value"] D) : Cl P w K mg base "UnknownName" "LookupError" "LookupError.__new__" "LookupError.__init__" ["value"] D := by
  refine ⟨exb_L, C.g, C.ox, C.nf, ?_⟩
  obtain ⟨fI, fd, i, t, F⟩ := C.ini
  refine ⟨fI, fd, i, t, okUnknownName F b C, F.binds (fun _ _ _ _ _ _ us hl => match us, hl with | [_, _], _ => rfl), ?_⟩
  obtain ⟨_, _, _, _, _, _, _, _, _, rfl, _, _⟩ := F.ex
  exact ⟨fun s us ws _ hl => by
    obtain ⟨a, rfl, hw⟩ := kgr_len hl
    match ws, hw with
    | [_], _ => exact .of_eq rfl, kgr_rel⟩
theorem clNothingToUndo {Wb D : Addr} (b : Bs K mg "MissingError" "LookupError.__init__" Wb) (C : Cf K mg "NothingToUndo" "NothingToUndo.__init__" iNothingToUndo "LookupError.__new__" (tailOf "LookupError") [] D) : Cl P w K mg base "NothingToUndo" "LookupError" "LookupError.__new__" "LookupError.__init__" [] D := by
  refine ⟨exb_L, C.g, C.ox, C.nf, ?_⟩
  obtain ⟨fI, fd, i, t, F⟩ := C.ini
  refine ⟨fI, fd, i, t, okNothingToUndo F b C, F.binds (fun _ _ _ _ _ _ us hl => match us, hl with | [_], _ => rfl), ?_⟩
  obtain ⟨_, _, _, _, _, _, _, _, _, rfl, _, _⟩ := F.ex
  exact ⟨fun s us ws _ hl => by
    obtain ⟨a, rfl, hw⟩ := kgr_len hl
    match ws, hw with
    | [], _ => exact .of_eq rfl, kgr_rel⟩
theorem clCantMake {Wb D : Addr} (b : Bs K mg "StateError" "RuntimeError.__init__" Wb) (C : Cf K mg "CantMake" "CantMake.__init__" iCantMake "RuntimeError.__new__" (tailOf "RuntimeError") ["number", "term"] D) : Cl P w K mg base "CantMake" "RuntimeError" "RuntimeError.__new__" "RuntimeError.__init__" ["number", "term"] D := by
  refine ⟨exb_R, C.g, C.ox, C.nf, ?_⟩
  obtain ⟨fI, fd, i, t, F⟩ := C.ini
  refine ⟨fI, fd, i, t, okCantMake F b C, F.binds (fun _ _ _ _ _ _ us hl => match us, hl with | [_, _, _], _ => rfl), ?_⟩
  obtain ⟨_, _, _, _, _, _, _, _, _, rfl, _, _⟩ := F.ex
  exact ⟨fun s us ws _ hl => by
    obtain ⟨a, rfl, hw⟩ := kgr_len hl
    match ws, hw with
    | [_, _], _ => exact .of_eq rfl, kgr_rel⟩
theorem clCommandFailed {Wb D : Addr} (b : Bs K mg "StateError" "RuntimeError.__init__" Wb) (C : Cf K mg "CommandFailed" "CommandFailed.__init__" iCommandFailed "RuntimeError.__new__" (tailOf "RuntimeError") ["position"] D) : Cl P w K mg base "CommandFailed" "RuntimeError" "RuntimeError.__new__" "RuntimeError.__init__" ["position"] D := by
  refine ⟨exb_R, C.g, C.ox, C.nf, ?_⟩
  obtain ⟨fI, fd, i, t, F⟩ := C.ini
  refine ⟨fI, fd, i, t, okCommandFailed F b C, F.binds (fun _ _ _ _ _ _ us hl => match us, hl with | [_, _], _ => rfl), ?_⟩
  obtain ⟨_, _, _, _, _, _, _, _, _, rfl, _, _⟩ := F.ex
  exact ⟨fun s us ws _ hl => by
    obtain ⟨a, rfl, hw⟩ := kgr_len hl
    match ws, hw with
    | [_], _ => exact .of_eq rfl, kgr_rel⟩
theorem clTooMany {Wb D : Addr} (b : Bs K mg "LimitError" "ArithmeticError.__init__" Wb) (C : Cf K mg "TooMany" "TooMany.__init__" iTooMany "ArithmeticError.__new__" (tailOf "ArithmeticError") ["what", "limit"] D) : Cl P w K mg base "TooMany" "ArithmeticError" "ArithmeticError.__new__" "ArithmeticError.__init__" ["what", "limit"] D := by
  refine ⟨exb_A, C.g, C.ox, C.nf, ?_⟩
  obtain ⟨fI, fd, i, t, F⟩ := C.ini
  refine ⟨fI, fd, i, t, okTooMany F b C, F.binds (fun _ _ _ _ _ _ us hl => match us, hl with | [_, _, _], _ => rfl), ?_⟩
  obtain ⟨_, _, _, _, _, _, _, _, _, rfl, _, _⟩ := F.ex
  exact ⟨fun s us ws _ hl => by
    obtain ⟨a, rfl, hw⟩ := kgr_len hl
    match ws, hw with
    | [_, _], _ => exact .of_eq rfl, kgr_rel⟩
end
/-- which of the four bases -/
def bas (i : Nat) : Nat := if i < 25 then 0 else if i < 29 then 1 else if i < 31 then 2 else 3
/-- what bases asks after -/
def bv (ws : Nat → Addr) (t : Nat) : V := if t < 4 then .ref (ws t) else .ty (["ValueError", "LookupError", "RuntimeError", "ArithmeticError", "TypeError", "KeyError", "IndexError", "OverflowError", "ZeroDivisionError", "NotImplementedError", "AttributeError"].getD (t - 4) "")
def bu (ws : Nat → Addr) (t : Nat) : Value := if t < 4 then .ref (ws t) else .type (["ValueError", "LookupError", "RuntimeError", "ArithmeticError", "TypeError", "KeyError", "IndexError", "OverflowError", "ZeroDivisionError", "NotImplementedError", "AttributeError"].getD (t - 4) "")
structure Txt (P : Program) (w : World) (K : PySem.W.Frag) (mg : Str → Option Value) (base : Heap) (ws cs : Nat → Addr) : Prop where
  c0 : Cl P w K mg base "InvalidLetter" "ValueError" "ValueError.__new__" "ValueError.__init__" ["value"] (cs 0)
  c1 : Cl P w K mg base "InvalidWord" "ValueError" "ValueError.__new__" "ValueError.__init__" ["value"] (cs 1)
  c2 : Cl P w K mg base "InvalidNumber" "ValueError" "ValueError.__new__" "ValueError.__init__" ["value"] (cs 2)
  c3 : Cl P w K mg base "InvalidFront" "ValueError" "ValueError.__new__" "ValueError.__init__" ["value"] (cs 3)
  c4 : Cl P w K mg base "InvalidSaying" "ValueError" "ValueError.__new__" "ValueError.__init__" ["value"] (cs 4)
  c5 : Cl P w K mg base "InvalidBook" "ValueError" "ValueError.__new__" "ValueError.__init__" ["value"] (cs 5)
  c6 : Cl P w K mg base "InvalidTerm" "ValueError" "ValueError.__new__" "ValueError.__init__" ["value"] (cs 6)
  c7 : Cl P w K mg base "InvalidWeb" "ValueError" "ValueError.__new__" "ValueError.__init__" ["value"] (cs 7)
  c8 : Cl P w K mg base "InvalidMaker" "ValueError" "ValueError.__new__" "ValueError.__init__" ["value"] (cs 8)
  c9 : Cl P w K mg base "InvalidChoice" "ValueError" "ValueError.__new__" "ValueError.__init__" ["value"] (cs 9)
  c10 : Cl P w K mg base "InvalidWish" "ValueError" "ValueError.__new__" "ValueError.__init__" ["value"] (cs 10)
  c11 : Cl P w K mg base "InvalidClaim" "ValueError" "ValueError.__new__" "ValueError.__init__" ["value"] (cs 11)
  c12 : Cl P w K mg base "InvalidName" "ValueError" "ValueError.__new__" "ValueError.__init__" ["value"] (cs 12)
  c13 : Cl P w K mg base "InvalidEntry" "ValueError" "ValueError.__new__" "ValueError.__init__" ["value"] (cs 13)
  c14 : Cl P w K mg base "InvalidCommand" "ValueError" "ValueError.__new__" "ValueError.__init__" ["value"] (cs 14)
  c15 : Cl P w K mg base "InvalidWords" "ValueError" "ValueError.__new__" "ValueError.__init__" ["position"] (cs 15)
  c16 : Cl P w K mg base "InvalidTriggers" "ValueError" "ValueError.__new__" "ValueError.__init__" ["position"] (cs 16)
  c17 : Cl P w K mg base "InvalidMakes" "ValueError" "ValueError.__new__" "ValueError.__init__" ["position"] (cs 17)
  c18 : Cl P w K mg base "InvalidSayings" "ValueError" "ValueError.__new__" "ValueError.__init__" ["position"] (cs 18)
  c19 : Cl P w K mg base "InvalidThings" "ValueError" "ValueError.__new__" "ValueError.__init__" ["position"] (cs 19)
  c20 : Cl P w K mg base "InvalidTerms" "ValueError" "ValueError.__new__" "ValueError.__init__" ["position"] (cs 20)
  c21 : Cl P w K mg base "InvalidPairs" "ValueError" "ValueError.__new__" "ValueError.__init__" ["position"] (cs 21)
  c22 : Cl P w K mg base "InvalidInstances" "ValueError" "ValueError.__new__" "ValueError.__init__" ["position"] (cs 22)
  c23 : Cl P w K mg base "InvalidOffers" "ValueError" "ValueError.__new__" "ValueError.__init__" ["position"] (cs 23)
  c24 : Cl P w K mg base "InvalidText" "ValueError" "ValueError.__new__" "ValueError.__init__" ["line"] (cs 24)
  c25 : Cl P w K mg base "UnknownLetter" "LookupError" "LookupError.__new__" "LookupError.__init__" ["value"] (cs 25)
  c26 : Cl P w K mg base "UnknownTerm" "LookupError" "LookupError.__new__" "LookupError.__init__" ["value"] (cs 26)
  c27 : Cl P w K mg base "UnknownName" "LookupError" "LookupError.__new__" "LookupError.__init__" ["value"] (cs 27)
  c28 : Cl P w K mg base "NothingToUndo" "LookupError" "LookupError.__new__" "LookupError.__init__" [] (cs 28)
  c29 : Cl P w K mg base "CantMake" "RuntimeError" "RuntimeError.__new__" "RuntimeError.__init__" ["number", "term"] (cs 29)
  c30 : Cl P w K mg base "CommandFailed" "RuntimeError" "RuntimeError.__new__" "RuntimeError.__init__" ["position"] (cs 30)
  c31 : Cl P w K mg base "TooMany" "ArithmeticError" "ArithmeticError.__new__" "ArithmeticError.__init__" ["what", "limit"] (cs 31)
  w0 : mg "WakeError" = some (.ref (ws 0))
  w1 : mg "MissingError" = some (.ref (ws 1))
  w2 : mg "StateError" = some (.ref (ws 2))
  w3 : mg "LimitError" = some (.ref (ws 3))
  kc : ∀ i j, i < 32 → j < 32 → PySem.W.kitOne K (.ref (cs i)) (.ref (cs j)) = some (decide (i = j))
  kb : ∀ i t, i < 32 → t < 15 → PySem.W.kitOne K (.ref (cs i)) (bu ws t) = some (decide (t = bas i ∨ t = bas i + 4))
  n_len : mg "len" = none
  n_repr : mg "repr" = none
  n_isinstance : mg "isinstance" = none
  n_divmod : mg "divmod" = none
  n_abs : mg "abs" = none
  n_max : mg "max" = none
  n_min : mg "min" = none
  n_int : mg "int" = none
  n_all : mg "all" = none
  n_range : mg "range" = none
  n_enumerate : mg "enumerate" = none
  n_ValueError : mg "ValueError" = none
  n_LookupError : mg "LookupError" = none
  n_RuntimeError : mg "RuntimeError" = none
  n_ArithmeticError : mg "ArithmeticError" = none
  n_TypeError : mg "TypeError" = none
  n_KeyError : mg "KeyError" = none
  n_IndexError : mg "IndexError" = none
  n_OverflowError : mg "OverflowError" = none
  n_ZeroDivisionError : mg "ZeroDivisionError" = none
  n_NotImplementedError : mg "NotImplementedError" = none
  n_AttributeError : mg "AttributeError" = none
  d_law_pot : ∃ f fd, Df K mg "_law_pot" s_law_pot ["_law_script", "_law_k"] f fd
  d_law_draw : ∃ f fd, Df K mg "_law_draw" s_law_draw ["_law_pot_here", "_law_size"] f fd
  d_law_pick : ∃ f fd, Df K mg "_law_pick" s_law_pick ["_law_pot_here", "_law_some"] f fd
  d_law_thing : ∃ f fd, Df K mg "_law_thing" s_law_thing ["_law_pot_here"] f fd
  d_law_wakes : ∃ f fd, Df K mg "_law_wakes" s_law_wakes ["_law_some"] f fd
  d_law_which_wake : ∃ f fd, Df K mg "_law_which_wake" s_law_which_wake ["_law_e"] f fd
  d_law_rest : ∃ f fd, Df K mg "_law_rest" s_law_rest ["_law_some", "_law_more"] f fd
  d_law_which_rest : ∃ f fd, Df K mg "_law_which_rest" s_law_which_rest ["_law_e"] f fd
  d_law_bases : ∃ f fd, Df K mg "_law_bases" s_law_bases ["_law_e"] f fd
  d_law_classes_right : ∃ f fd, Df K mg "_law_classes_right" s_law_classes_right ["_law_some", "_law_more"] f fd
  d_law_fields_right : ∃ f fd, Df K mg "_law_fields_right" s_law_fields_right ["_law_some", "_law_more"] f fd
  d_law_named_right : ∃ f fd, Df K mg "_law_named_right" s_law_named_right ["_law_some", "_law_more"] f fd
  d_law_right : ∃ f fd, Df K mg "_law_right" s_law_right ["_law_pot_here"] f fd
  dlaw : ∃ f fd, Df K mg "law" slaw ["_law_script"] f fd
theorem all32 {p : Nat → Prop} (h0 : p 0) (h1 : p 1) (h2 : p 2) (h3 : p 3) (h4 : p 4) (h5 : p 5) (h6 : p 6) (h7 : p 7) (h8 : p 8) (h9 : p 9) (h10 : p 10) (h11 : p 11) (h12 : p 12) (h13 : p 13) (h14 : p 14) (h15 : p 15) (h16 : p 16) (h17 : p 17) (h18 : p 18) (h19 : p 19) (h20 : p 20) (h21 : p 21) (h22 : p 22) (h23 : p 23) (h24 : p 24) (h25 : p 25) (h26 : p 26) (h27 : p 27) (h28 : p 28) (h29 : p 29) (h30 : p 30) (h31 : p 31) : ∀ i, i < 32 → p i
  | 0, _ => h0
  | 1, _ => h1
  | 2, _ => h2
  | 3, _ => h3
  | 4, _ => h4
  | 5, _ => h5
  | 6, _ => h6
  | 7, _ => h7
  | 8, _ => h8
  | 9, _ => h9
  | 10, _ => h10
  | 11, _ => h11
  | 12, _ => h12
  | 13, _ => h13
  | 14, _ => h14
  | 15, _ => h15
  | 16, _ => h16
  | 17, _ => h17
  | 18, _ => h18
  | 19, _ => h19
  | 20, _ => h20
  | 21, _ => h21
  | 22, _ => h22
  | 23, _ => h23
  | 24, _ => h24
  | 25, _ => h25
  | 26, _ => h26
  | 27, _ => h27
  | 28, _ => h28
  | 29, _ => h29
  | 30, _ => h30
  | 31, _ => h31
  | n + 32, h => absurd h (by omega)
section
variable {P : Program} {w : World} {K : PySem.W.Frag} {mg : Str → Option Value} {base : Heap} {ws cs : Nat → Addr}
theorem Txt.ex (T : Txt P w K mg base ws cs) : ∀ i, i < 32 → ExcC K (cs i) := all32 T.c0.ox.ex T.c1.ox.ex T.c2.ox.ex T.c3.ox.ex T.c4.ox.ex T.c5.ox.ex T.c6.ox.ex T.c7.ox.ex T.c8.ox.ex T.c9.ox.ex T.c10.ox.ex T.c11.ox.ex T.c12.ox.ex T.c13.ox.ex T.c14.ox.ex T.c15.ox.ex T.c16.ox.ex T.c17.ox.ex T.c18.ox.ex T.c19.ox.ex T.c20.ox.ex T.c21.ox.ex T.c22.ox.ex T.c23.ox.ex T.c24.ox.ex T.c25.ox.ex T.c26.ox.ex T.c27.ox.ex T.c28.ox.ex T.c29.ox.ex T.c30.ox.ex T.c31.ox.ex
theorem Txt.inj (T : Txt P w K mg base ws cs) {i j : Nat} (hi : i < 32) (hj : j < 32) (e : cs i = cs j) : i = j := by
  have h1 := T.kc i j hi hj
  have h2 := T.kc j j hj hj
  rw [e, h2] at h1
  simpa using h1
/-! ### the exceptions made, in data -/
def fld (j : Nat) : Str := if j < 15 then "value" else if j < 24 then "position" else "line"
def wakeD (cs : Nat → Addr) (v : D) : List D := (List.range 25).map fun j => .exc (cs j) [(fld j, v)]
def restD (cs : Nat → Addr) (v u : D) : List D := [.exc (cs 25) [("value", v)], .exc (cs 26) [("value", v)], .exc (cs 27) [("value", v)], .exc (cs 28) [], .exc (cs 29) [("term", u), ("number", v)], .exc (cs 30) [("position", v)], .exc (cs 31) [("limit", u), ("what", v)]]
def arg (ds : List D) (i : Nat) : D := ds.getD i .non
abbrev N_law_wakes : List Str := ["_law_some", "_law_found"]
theorem sc_law_wakes : FnScope N_law_wakes ["_law_some"] (defScope s_law_wakes) := ⟨rfl, rfl, rfl, by decide +kernel, rfl, by decide +kernel, by decide +kernel⟩
theorem ok_law_wakes (T : Txt P w K mg base ws cs) {f : Addr} {fd : FuncData} (Dd : Df K mg "_law_wakes" s_law_wakes ["_law_some"] f fd) : FnOk P w K mg base CX0 3 f fd ["_law_some"] (spD 1 (fun _ => True) (fun ds d => d = .lst (wakeD cs (arg ds 0)))) := by
  refine okD Dd.F sc_law_wakes rfl (fun cdv A outer s H E hr => ?_)
  have nd := sc_law_wakes.nd
  refine ⟨_, (pss_cons (ps_asg (pe_lst (pa_cons (pe_cl T.c0 (hr.mono (by decide)) pass0 rfl (pa_cons (pv 0) pa_nil)) (pa_cons (pe_cl T.c1 (hr.mono (by decide)) pass0 rfl (pa_cons (pv 0) pa_nil)) (pa_cons (pe_cl T.c2 (hr.mono (by decide)) pass0 rfl (pa_cons (pv 0) pa_nil)) (pa_cons (pe_cl T.c3 (hr.mono (by decide)) pass0 rfl (pa_cons (pv 0) pa_nil)) (pa_cons (pe_cl T.c4 (hr.mono (by decide)) pass0 rfl (pa_cons (pv 0) pa_nil)) pa_nil)))))) (pg_name (i := 1) nd rfl (Or.inl rfl)))
    (pss_cons (ps_asg (pe_op op_cat (pv 1) (pe_lst (pa_cons (pe_cl T.c5 (hr.mono (by decide)) pass0 rfl (pa_cons (pv 0) pa_nil)) (pa_cons (pe_cl T.c6 (hr.mono (by decide)) pass0 rfl (pa_cons (pv 0) pa_nil)) (pa_cons (pe_cl T.c7 (hr.mono (by decide)) pass0 rfl (pa_cons (pv 0) pa_nil)) (pa_cons (pe_cl T.c8 (hr.mono (by decide)) pass0 rfl (pa_cons (pv 0) pa_nil)) (pa_cons (pe_cl T.c9 (hr.mono (by decide)) pass0 rfl (pa_cons (pv 0) pa_nil)) pa_nil))))))) (pg_name (i := 1) nd rfl (Or.inl rfl)))
    (pss_cons (ps_asg (pe_op op_cat (pv 1) (pe_lst (pa_cons (pe_cl T.c10 (hr.mono (by decide)) pass0 rfl (pa_cons (pv 0) pa_nil)) (pa_cons (pe_cl T.c11 (hr.mono (by decide)) pass0 rfl (pa_cons (pv 0) pa_nil)) (pa_cons (pe_cl T.c12 (hr.mono (by decide)) pass0 rfl (pa_cons (pv 0) pa_nil)) (pa_cons (pe_cl T.c13 (hr.mono (by decide)) pass0 rfl (pa_cons (pv 0) pa_nil)) (pa_cons (pe_cl T.c14 (hr.mono (by decide)) pass0 rfl (pa_cons (pv 0) pa_nil)) pa_nil))))))) (pg_name (i := 1) nd rfl (Or.inl rfl)))
    (pss_cons (ps_asg (pe_op op_cat (pv 1) (pe_lst (pa_cons (pe_cl T.c15 (hr.mono (by decide)) pass0 rfl (pa_cons (pv 0) pa_nil)) (pa_cons (pe_cl T.c16 (hr.mono (by decide)) pass0 rfl (pa_cons (pv 0) pa_nil)) (pa_cons (pe_cl T.c17 (hr.mono (by decide)) pass0 rfl (pa_cons (pv 0) pa_nil)) (pa_cons (pe_cl T.c18 (hr.mono (by decide)) pass0 rfl (pa_cons (pv 0) pa_nil)) pa_nil)))))) (pg_name (i := 1) nd rfl (Or.inl rfl)))
    (pss_cons (ps_asg (pe_op op_cat (pv 1) (pe_lst (pa_cons (pe_cl T.c19 (hr.mono (by decide)) pass0 rfl (pa_cons (pv 0) pa_nil)) (pa_cons (pe_cl T.c20 (hr.mono (by decide)) pass0 rfl (pa_cons (pv 0) pa_nil)) (pa_cons (pe_cl T.c21 (hr.mono (by decide)) pass0 rfl (pa_cons (pv 0) pa_nil)) (pa_cons (pe_cl T.c22 (hr.mono (by decide)) pass0 rfl (pa_cons (pv 0) pa_nil)) pa_nil)))))) (pg_name (i := 1) nd rfl (Or.inl rfl)))
    (pss_one (ps_ret (pe_op op_cat (pv 1) (pe_lst (pa_cons (pe_cl T.c23 (hr.mono (by decide)) pass0 rfl (pa_cons (pv 0) pa_nil)) (pa_cons (pe_cl T.c24 (hr.mono (by decide)) pass0 rfl (pa_cons (pv 0) pa_nil)) pa_nil))))))))))), fun z ds hl hp => ?_⟩
  obtain ⟨v, rfl⟩ := List.length_eq_one_iff.mp hl
  refine x_seq ?_
  refine x_asg ?_
  refine e_lst ?_
  refine a_cons ?_
  refine e_mkv ?_
  refine a_cons (e_var (i := 0) rfl ?_)
  refine a_nil ⟨rfl, Nat.le_of_ble_eq_true rfl, ?_⟩
  refine a_cons ?_
  refine e_mkv ?_
  refine a_cons (e_var (i := 0) rfl ?_)
  refine a_nil ⟨rfl, Nat.le_of_ble_eq_true rfl, ?_⟩
  refine a_cons ?_
  refine e_mkv ?_
  refine a_cons (e_var (i := 0) rfl ?_)
  refine a_nil ⟨rfl, Nat.le_of_ble_eq_true rfl, ?_⟩
  refine a_cons ?_
  refine e_mkv ?_
  refine a_cons (e_var (i := 0) rfl ?_)
  refine a_nil ⟨rfl, Nat.le_of_ble_eq_true rfl, ?_⟩
  refine a_cons ?_
  refine e_mkv ?_
  refine a_cons (e_var (i := 0) rfl ?_)
  refine a_nil ⟨rfl, Nat.le_of_ble_eq_true rfl, ?_⟩
  refine a_nil ⟨sz rfl, ?_⟩
  refine g_name ?_
  refine x_seq ?_
  refine x_asg ?_
  refine e_op ?_
  refine e_var rfl ?_
  refine e_lst ?_
  refine a_cons ?_
  refine e_mkv ?_
  refine a_cons (e_var (i := 0) rfl ?_)
  refine a_nil ⟨rfl, Nat.le_of_ble_eq_true rfl, ?_⟩
  refine a_cons ?_
  refine e_mkv ?_
  refine a_cons (e_var (i := 0) rfl ?_)
  refine a_nil ⟨rfl, Nat.le_of_ble_eq_true rfl, ?_⟩
  refine a_cons ?_
  refine e_mkv ?_
  refine a_cons (e_var (i := 0) rfl ?_)
  refine a_nil ⟨rfl, Nat.le_of_ble_eq_true rfl, ?_⟩
  refine a_cons ?_
  refine e_mkv ?_
  refine a_cons (e_var (i := 0) rfl ?_)
  refine a_nil ⟨rfl, Nat.le_of_ble_eq_true rfl, ?_⟩
  refine a_cons ?_
  refine e_mkv ?_
  refine a_cons (e_var (i := 0) rfl ?_)
  refine a_nil ⟨rfl, Nat.le_of_ble_eq_true rfl, ?_⟩
  refine a_nil ⟨sz rfl, ?_⟩
  refine o_cat ⟨_, _, rfl, rfl, sz rfl, ?_⟩
  refine g_name ?_
  refine x_seq ?_
  refine x_asg ?_
  refine e_op ?_
  refine e_var rfl ?_
  refine e_lst ?_
  refine a_cons ?_
  refine e_mkv ?_
  refine a_cons (e_var (i := 0) rfl ?_)
  refine a_nil ⟨rfl, Nat.le_of_ble_eq_true rfl, ?_⟩
  refine a_cons ?_
  refine e_mkv ?_
  refine a_cons (e_var (i := 0) rfl ?_)
  refine a_nil ⟨rfl, Nat.le_of_ble_eq_true rfl, ?_⟩
  refine a_cons ?_
  refine e_mkv ?_
  refine a_cons (e_var (i := 0) rfl ?_)
  refine a_nil ⟨rfl, Nat.le_of_ble_eq_true rfl, ?_⟩
  refine a_cons ?_
  refine e_mkv ?_
  refine a_cons (e_var (i := 0) rfl ?_)
  refine a_nil ⟨rfl, Nat.le_of_ble_eq_true rfl, ?_⟩
  refine a_cons ?_
  refine e_mkv ?_
  refine a_cons (e_var (i := 0) rfl ?_)
  refine a_nil ⟨rfl, Nat.le_of_ble_eq_true rfl, ?_⟩
  refine a_nil ⟨sz rfl, ?_⟩
  refine o_cat ⟨_, _, rfl, rfl, sz rfl, ?_⟩
  refine g_name ?_
  refine x_seq ?_
  refine x_asg ?_
  refine e_op ?_
  refine e_var rfl ?_
  refine e_lst ?_
  refine a_cons ?_
  refine e_mkv ?_
  refine a_cons (e_var (i := 0) rfl ?_)
  refine a_nil ⟨rfl, Nat.le_of_ble_eq_true rfl, ?_⟩
  refine a_cons ?_
  refine e_mkv ?_
  refine a_cons (e_var (i := 0) rfl ?_)
  refine a_nil ⟨rfl, Nat.le_of_ble_eq_true rfl, ?_⟩
  refine a_cons ?_
  refine e_mkv ?_
  refine a_cons (e_var (i := 0) rfl ?_)
  refine a_nil ⟨rfl, Nat.le_of_ble_eq_true rfl, ?_⟩
  refine a_cons ?_
  refine e_mkv ?_
  refine a_cons (e_var (i := 0) rfl ?_)
  refine a_nil ⟨rfl, Nat.le_of_ble_eq_true rfl, ?_⟩
  refine a_nil ⟨sz rfl, ?_⟩
  refine o_cat ⟨_, _, rfl, rfl, sz rfl, ?_⟩
  refine g_name ?_
  refine x_seq ?_
  refine x_asg ?_
  refine e_op ?_
  refine e_var rfl ?_
  refine e_lst ?_
  refine a_cons ?_
  refine e_mkv ?_
  refine a_cons (e_var (i := 0) rfl ?_)
  refine a_nil ⟨rfl, Nat.le_of_ble_eq_true rfl, ?_⟩
  refine a_cons ?_
  refine e_mkv ?_
  refine a_cons (e_var (i := 0) rfl ?_)
  refine a_nil ⟨rfl, Nat.le_of_ble_eq_true rfl, ?_⟩
  refine a_cons ?_
  refine e_mkv ?_
  refine a_cons (e_var (i := 0) rfl ?_)
  refine a_nil ⟨rfl, Nat.le_of_ble_eq_true rfl, ?_⟩
  refine a_cons ?_
  refine e_mkv ?_
  refine a_cons (e_var (i := 0) rfl ?_)
  refine a_nil ⟨rfl, Nat.le_of_ble_eq_true rfl, ?_⟩
  refine a_nil ⟨sz rfl, ?_⟩
  refine o_cat ⟨_, _, rfl, rfl, sz rfl, ?_⟩
  refine g_name ?_
  refine x_ret ?_
  refine e_op ?_
  refine e_var rfl ?_
  refine e_lst ?_
  refine a_cons ?_
  refine e_mkv ?_
  refine a_cons (e_var (i := 0) rfl ?_)
  refine a_nil ⟨rfl, Nat.le_of_ble_eq_true rfl, ?_⟩
  refine a_cons ?_
  refine e_mkv ?_
  refine a_cons (e_var (i := 0) rfl ?_)
  refine a_nil ⟨rfl, Nat.le_of_ble_eq_true rfl, ?_⟩
  refine a_nil ⟨sz rfl, ?_⟩
  refine o_cat ⟨_, _, rfl, rfl, sz rfl, ?_⟩
  rfl
abbrev N_law_rest : List Str := ["_law_some", "_law_more", "_law_found"]
theorem sc_law_rest : FnScope N_law_rest ["_law_some", "_law_more"] (defScope s_law_rest) := ⟨rfl, rfl, rfl, by decide +kernel, rfl, by decide +kernel, by decide +kernel⟩
theorem ok_law_rest (T : Txt P w K mg base ws cs) {f : Addr} {fd : FuncData} (Dd : Df K mg "_law_rest" s_law_rest ["_law_some", "_law_more"] f fd) : FnOk P w K mg base CX0 3 f fd ["_law_some", "_law_more"] (spD 2 (fun _ => True) (fun ds d => d = .lst (restD cs (arg ds 0) (arg ds 1)))) := by
  refine okD Dd.F sc_law_rest rfl (fun cdv A outer s H E hr => ?_)
  have nd := sc_law_rest.nd
  refine ⟨_, (pss_cons (ps_asg (pe_lst (pa_cons (pe_cl T.c25 (hr.mono (by decide)) pass0 rfl (pa_cons (pv 0) pa_nil)) (pa_cons (pe_cl T.c26 (hr.mono (by decide)) pass0 rfl (pa_cons (pv 0) pa_nil)) (pa_cons (pe_cl T.c27 (hr.mono (by decide)) pass0 rfl (pa_cons (pv 0) pa_nil)) (pa_cons (pe_cl0 T.c28 (hr.mono (by decide)) pass0 rfl) (pa_cons (pe_cl T.c29 (hr.mono (by decide)) pass0 rfl (pa_cons (pv 0) (pa_cons (pv 1) pa_nil))) pa_nil)))))) (pg_name (i := 2) nd rfl (Or.inl rfl)))
    (pss_one (ps_ret (pe_op op_cat (pv 2) (pe_lst (pa_cons (pe_cl T.c30 (hr.mono (by decide)) pass0 rfl (pa_cons (pv 0) pa_nil)) (pa_cons (pe_cl T.c31 (hr.mono (by decide)) pass0 rfl (pa_cons (pv 0) (pa_cons (pv 1) pa_nil))) pa_nil))))))), fun z ds hl hp => ?_⟩
  obtain ⟨v, u, rfl⟩ := len2 hl
  refine x_seq ?_
  refine x_asg ?_
  refine e_lst ?_
  refine a_cons ?_
  refine e_mkv ?_
  refine a_cons (e_var (i := 0) rfl ?_)
  refine a_nil ⟨rfl, Nat.le_of_ble_eq_true rfl, ?_⟩
  refine a_cons ?_
  refine e_mkv ?_
  refine a_cons (e_var (i := 0) rfl ?_)
  refine a_nil ⟨rfl, Nat.le_of_ble_eq_true rfl, ?_⟩
  refine a_cons ?_
  refine e_mkv ?_
  refine a_cons (e_var (i := 0) rfl ?_)
  refine a_nil ⟨rfl, Nat.le_of_ble_eq_true rfl, ?_⟩
  refine a_cons ?_
  refine e_mkv (a_nil ⟨rfl, Nat.zero_le _, ?_⟩)
  refine a_cons ?_
  refine e_mkv ?_
  refine a_cons (e_var (i := 0) rfl ?_)
  refine a_cons (e_var (i := 1) rfl ?_)
  refine a_nil ⟨rfl, Nat.le_of_ble_eq_true rfl, ?_⟩
  refine a_nil ⟨sz rfl, ?_⟩
  refine g_name ?_
  refine x_ret ?_
  refine e_op ?_
  refine e_var rfl ?_
  refine e_lst ?_
  refine a_cons ?_
  refine e_mkv ?_
  refine a_cons (e_var (i := 0) rfl ?_)
  refine a_nil ⟨rfl, Nat.le_of_ble_eq_true rfl, ?_⟩
  refine a_cons ?_
  refine e_mkv ?_
  refine a_cons (e_var (i := 0) rfl ?_)
  refine a_cons (e_var (i := 1) rfl ?_)
  refine a_nil ⟨rfl, Nat.le_of_ble_eq_true rfl, ?_⟩
  refine a_nil ⟨sz rfl, ?_⟩
  refine o_cat ⟨_, _, rfl, rfl, sz rfl, ?_⟩
  rfl
abbrev N_law_which_wake : List Str := ["_law_e", "_law_found"]
theorem sc_law_which_wake : FnScope N_law_which_wake ["_law_e"] (defScope s_law_which_wake) := ⟨rfl, rfl, rfl, by decide +kernel, rfl, by decide +kernel, by decide +kernel⟩
theorem ok_law_which_wake (T : Txt P w K mg base ws cs) {f : Addr} {fd : FuncData} (Dd : Df K mg "_law_which_wake" s_law_which_wake ["_law_e"] f fd) : FnOk P w K mg base CX0 1 f fd ["_law_e"] (spD 1 (fun ds => ∃ i fs, i < 32 ∧ ds = [.exc (cs i) fs]) (fun ds d => ∃ i fs, i < 32 ∧ ds = [.exc (cs i) fs] ∧ d = .lst ((List.range 25).map fun j => D.bl (decide (i = j))))) := by
  refine okD Dd.F sc_law_which_wake rfl (fun cdv A outer s H E hr => ?_)
  have nd := sc_law_which_wake.nd
  refine ⟨_, (pss_cons (ps_asg (pe_lst (pa_cons (pe_callB call_isX rfl T.n_isinstance boot_isinstance (pa_cons (pv 0) (pa_cons (pe_glob (v := .ref (cs 0)) rfl T.c0.g rfl) pa_nil))) (pa_cons (pe_callB call_isX rfl T.n_isinstance boot_isinstance (pa_cons (pv 0) (pa_cons (pe_glob (v := .ref (cs 1)) rfl T.c1.g rfl) pa_nil))) (pa_cons (pe_callB call_isX rfl T.n_isinstance boot_isinstance (pa_cons (pv 0) (pa_cons (pe_glob (v := .ref (cs 2)) rfl T.c2.g rfl) pa_nil))) pa_nil)))) (pg_name (i := 1) nd rfl (Or.inl rfl)))
    (pss_cons (ps_asg (pe_op op_cat (pv 1) (pe_lst (pa_cons (pe_callB call_isX rfl T.n_isinstance boot_isinstance (pa_cons (pv 0) (pa_cons (pe_glob (v := .ref (cs 3)) rfl T.c3.g rfl) pa_nil))) (pa_cons (pe_callB call_isX rfl T.n_isinstance boot_isinstance (pa_cons (pv 0) (pa_cons (pe_glob (v := .ref (cs 4)) rfl T.c4.g rfl) pa_nil))) (pa_cons (pe_callB call_isX rfl T.n_isinstance boot_isinstance (pa_cons (pv 0) (pa_cons (pe_glob (v := .ref (cs 5)) rfl T.c5.g rfl) pa_nil))) pa_nil))))) (pg_name (i := 1) nd rfl (Or.inl rfl)))
    (pss_cons (ps_asg (pe_op op_cat (pv 1) (pe_lst (pa_cons (pe_callB call_isX rfl T.n_isinstance boot_isinstance (pa_cons (pv 0) (pa_cons (pe_glob (v := .ref (cs 6)) rfl T.c6.g rfl) pa_nil))) (pa_cons (pe_callB call_isX rfl T.n_isinstance boot_isinstance (pa_cons (pv 0) (pa_cons (pe_glob (v := .ref (cs 7)) rfl T.c7.g rfl) pa_nil))) (pa_cons (pe_callB call_isX rfl T.n_isinstance boot_isinstance (pa_cons (pv 0) (pa_cons (pe_glob (v := .ref (cs 8)) rfl T.c8.g rfl) pa_nil))) pa_nil))))) (pg_name (i := 1) nd rfl (Or.inl rfl)))
    (pss_cons (ps_asg (pe_op op_cat (pv 1) (pe_lst (pa_cons (pe_callB call_isX rfl T.n_isinstance boot_isinstance (pa_cons (pv 0) (pa_cons (pe_glob (v := .ref (cs 9)) rfl T.c9.g rfl) pa_nil))) (pa_cons (pe_callB call_isX rfl T.n_isinstance boot_isinstance (pa_cons (pv 0) (pa_cons (pe_glob (v := .ref (cs 10)) rfl T.c10.g rfl) pa_nil))) (pa_cons (pe_callB call_isX rfl T.n_isinstance boot_isinstance (pa_cons (pv 0) (pa_cons (pe_glob (v := .ref (cs 11)) rfl T.c11.g rfl) pa_nil))) pa_nil))))) (pg_name (i := 1) nd rfl (Or.inl rfl)))
    (pss_cons (ps_asg (pe_op op_cat (pv 1) (pe_lst (pa_cons (pe_callB call_isX rfl T.n_isinstance boot_isinstance (pa_cons (pv 0) (pa_cons (pe_glob (v := .ref (cs 12)) rfl T.c12.g rfl) pa_nil))) (pa_cons (pe_callB call_isX rfl T.n_isinstance boot_isinstance (pa_cons (pv 0) (pa_cons (pe_glob (v := .ref (cs 13)) rfl T.c13.g rfl) pa_nil))) (pa_cons (pe_callB call_isX rfl T.n_isinstance boot_isinstance (pa_cons (pv 0) (pa_cons (pe_glob (v := .ref (cs 14)) rfl T.c14.g rfl) pa_nil))) pa_nil))))) (pg_name (i := 1) nd rfl (Or.inl rfl)))
    (pss_cons (ps_asg (pe_op op_cat (pv 1) (pe_lst (pa_cons (pe_callB call_isX rfl T.n_isinstance boot_isinstance (pa_cons (pv 0) (pa_cons (pe_glob (v := .ref (cs 15)) rfl T.c15.g rfl) pa_nil))) (pa_cons (pe_callB call_isX rfl T.n_isinstance boot_isinstance (pa_cons (pv 0) (pa_cons (pe_glob (v := .ref (cs 16)) rfl T.c16.g rfl) pa_nil))) (pa_cons (pe_callB call_isX rfl T.n_isinstance boot_isinstance (pa_cons (pv 0) (pa_cons (pe_glob (v := .ref (cs 17)) rfl T.c17.g rfl) pa_nil))) pa_nil))))) (pg_name (i := 1) nd rfl (Or.inl rfl)))
    (pss_cons (ps_asg (pe_op op_cat (pv 1) (pe_lst (pa_cons (pe_callB call_isX rfl T.n_isinstance boot_isinstance (pa_cons (pv 0) (pa_cons (pe_glob (v := .ref (cs 18)) rfl T.c18.g rfl) pa_nil))) (pa_cons (pe_callB call_isX rfl T.n_isinstance boot_isinstance (pa_cons (pv 0) (pa_cons (pe_glob (v := .ref (cs 19)) rfl T.c19.g rfl) pa_nil))) (pa_cons (pe_callB call_isX rfl T.n_isinstance boot_isinstance (pa_cons (pv 0) (pa_cons (pe_glob (v := .ref (cs 20)) rfl T.c20.g rfl) pa_nil))) pa_nil))))) (pg_name (i := 1) nd rfl (Or.inl rfl)))
    (pss_cons (ps_asg (pe_op op_cat (pv 1) (pe_lst (pa_cons (pe_callB call_isX rfl T.n_isinstance boot_isinstance (pa_cons (pv 0) (pa_cons (pe_glob (v := .ref (cs 21)) rfl T.c21.g rfl) pa_nil))) (pa_cons (pe_callB call_isX rfl T.n_isinstance boot_isinstance (pa_cons (pv 0) (pa_cons (pe_glob (v := .ref (cs 22)) rfl T.c22.g rfl) pa_nil))) (pa_cons (pe_callB call_isX rfl T.n_isinstance boot_isinstance (pa_cons (pv 0) (pa_cons (pe_glob (v := .ref (cs 23)) rfl T.c23.g rfl) pa_nil))) pa_nil))))) (pg_name (i := 1) nd rfl (Or.inl rfl)))
    (pss_one (ps_ret (pe_op op_cat (pv 1) (pe_lst (pa_cons (pe_callB call_isX rfl T.n_isinstance boot_isinstance (pa_cons (pv 0) (pa_cons (pe_glob (v := .ref (cs 24)) rfl T.c24.g rfl) pa_nil))) pa_nil))))))))))))), fun z ds hl hp => ?_⟩
  obtain ⟨i, fs, hi, rfl⟩ := hp
  refine x_seq ?_
  refine x_asg ?_
  refine e_lst ?_
  refine a_cons ?_
  refine e_cb (a_cons (e_var (i := 0) rfl (a_cons (e_raw (a_nil (o_isX ⟨cs i, fs, _, .ref (cs 0), decide (i = 0), rfl, T.ex i hi, fun _ h => h, T.kc i 0 hi (by decide), ?_⟩))))))
  refine a_cons ?_
  refine e_cb (a_cons (e_var (i := 0) rfl (a_cons (e_raw (a_nil (o_isX ⟨cs i, fs, _, .ref (cs 1), decide (i = 1), rfl, T.ex i hi, fun _ h => h, T.kc i 1 hi (by decide), ?_⟩))))))
  refine a_cons ?_
  refine e_cb (a_cons (e_var (i := 0) rfl (a_cons (e_raw (a_nil (o_isX ⟨cs i, fs, _, .ref (cs 2), decide (i = 2), rfl, T.ex i hi, fun _ h => h, T.kc i 2 hi (by decide), ?_⟩))))))
  refine a_nil ⟨sz rfl, ?_⟩
  refine g_name ?_
  refine x_seq ?_
  refine x_asg ?_
  refine e_op ?_
  refine e_var rfl ?_
  refine e_lst ?_
  refine a_cons ?_
  refine e_cb (a_cons (e_var (i := 0) rfl (a_cons (e_raw (a_nil (o_isX ⟨cs i, fs, _, .ref (cs 3), decide (i = 3), rfl, T.ex i hi, fun _ h => h, T.kc i 3 hi (by decide), ?_⟩))))))
  refine a_cons ?_
  refine e_cb (a_cons (e_var (i := 0) rfl (a_cons (e_raw (a_nil (o_isX ⟨cs i, fs, _, .ref (cs 4), decide (i = 4), rfl, T.ex i hi, fun _ h => h, T.kc i 4 hi (by decide), ?_⟩))))))
  refine a_cons ?_
  refine e_cb (a_cons (e_var (i := 0) rfl (a_cons (e_raw (a_nil (o_isX ⟨cs i, fs, _, .ref (cs 5), decide (i = 5), rfl, T.ex i hi, fun _ h => h, T.kc i 5 hi (by decide), ?_⟩))))))
  refine a_nil ⟨sz rfl, ?_⟩
  refine o_cat ⟨_, _, rfl, rfl, sz rfl, ?_⟩
  refine g_name ?_
  refine x_seq ?_
  refine x_asg ?_
  refine e_op ?_
  refine e_var rfl ?_
  refine e_lst ?_
  refine a_cons ?_
  refine e_cb (a_cons (e_var (i := 0) rfl (a_cons (e_raw (a_nil (o_isX ⟨cs i, fs, _, .ref (cs 6), decide (i = 6), rfl, T.ex i hi, fun _ h => h, T.kc i 6 hi (by decide), ?_⟩))))))
  refine a_cons ?_
  refine e_cb (a_cons (e_var (i := 0) rfl (a_cons (e_raw (a_nil (o_isX ⟨cs i, fs, _, .ref (cs 7), decide (i = 7), rfl, T.ex i hi, fun _ h => h, T.kc i 7 hi (by decide), ?_⟩))))))
  refine a_cons ?_
  refine e_cb (a_cons (e_var (i := 0) rfl (a_cons (e_raw (a_nil (o_isX ⟨cs i, fs, _, .ref (cs 8), decide (i = 8), rfl, T.ex i hi, fun _ h => h, T.kc i 8 hi (by decide), ?_⟩))))))
  refine a_nil ⟨sz rfl, ?_⟩
  refine o_cat ⟨_, _, rfl, rfl, sz rfl, ?_⟩
  refine g_name ?_
  refine x_seq ?_
  refine x_asg ?_
  refine e_op ?_
  refine e_var rfl ?_
  refine e_lst ?_
  refine a_cons ?_
  refine e_cb (a_cons (e_var (i := 0) rfl (a_cons (e_raw (a_nil (o_isX ⟨cs i, fs, _, .ref (cs 9), decide (i = 9), rfl, T.ex i hi, fun _ h => h, T.kc i 9 hi (by decide), ?_⟩))))))
  refine a_cons ?_
  refine e_cb (a_cons (e_var (i := 0) rfl (a_cons (e_raw (a_nil (o_isX ⟨cs i, fs, _, .ref (cs 10), decide (i = 10), rfl, T.ex i hi, fun _ h => h, T.kc i 10 hi (by decide), ?_⟩))))))
  refine a_cons ?_
  refine e_cb (a_cons (e_var (i := 0) rfl (a_cons (e_raw (a_nil (o_isX ⟨cs i, fs, _, .ref (cs 11), decide (i = 11), rfl, T.ex i hi, fun _ h => h, T.kc i 11 hi (by decide), ?_⟩))))))
  refine a_nil ⟨sz rfl, ?_⟩
  refine o_cat ⟨_, _, rfl, rfl, sz rfl, ?_⟩
  refine g_name ?_
  refine x_seq ?_
  refine x_asg ?_
  refine e_op ?_
  refine e_var rfl ?_
  refine e_lst ?_
  refine a_cons ?_
  refine e_cb (a_cons (e_var (i := 0) rfl (a_cons (e_raw (a_nil (o_isX ⟨cs i, fs, _, .ref (cs 12), decide (i = 12), rfl, T.ex i hi, fun _ h => h, T.kc i 12 hi (by decide), ?_⟩))))))
  refine a_cons ?_
  refine e_cb (a_cons (e_var (i := 0) rfl (a_cons (e_raw (a_nil (o_isX ⟨cs i, fs, _, .ref (cs 13), decide (i = 13), rfl, T.ex i hi, fun _ h => h, T.kc i 13 hi (by decide), ?_⟩))))))
  refine a_cons ?_
  refine e_cb (a_cons (e_var (i := 0) rfl (a_cons (e_raw (a_nil (o_isX ⟨cs i, fs, _, .ref (cs 14), decide (i = 14), rfl, T.ex i hi, fun _ h => h, T.kc i 14 hi (by decide), ?_⟩))))))
  refine a_nil ⟨sz rfl, ?_⟩
  refine o_cat ⟨_, _, rfl, rfl, sz rfl, ?_⟩
  refine g_name ?_
  refine x_seq ?_
  refine x_asg ?_
  refine e_op ?_
  refine e_var rfl ?_
  refine e_lst ?_
  refine a_cons ?_
  refine e_cb (a_cons (e_var (i := 0) rfl (a_cons (e_raw (a_nil (o_isX ⟨cs i, fs, _, .ref (cs 15), decide (i = 15), rfl, T.ex i hi, fun _ h => h, T.kc i 15 hi (by decide), ?_⟩))))))
  refine a_cons ?_
  refine e_cb (a_cons (e_var (i := 0) rfl (a_cons (e_raw (a_nil (o_isX ⟨cs i, fs, _, .ref (cs 16), decide (i = 16), rfl, T.ex i hi, fun _ h => h, T.kc i 16 hi (by decide), ?_⟩))))))
  refine a_cons ?_
  refine e_cb (a_cons (e_var (i := 0) rfl (a_cons (e_raw (a_nil (o_isX ⟨cs i, fs, _, .ref (cs 17), decide (i = 17), rfl, T.ex i hi, fun _ h => h, T.kc i 17 hi (by decide), ?_⟩))))))
  refine a_nil ⟨sz rfl, ?_⟩
  refine o_cat ⟨_, _, rfl, rfl, sz rfl, ?_⟩
  refine g_name ?_
  refine x_seq ?_
  refine x_asg ?_
  refine e_op ?_
  refine e_var rfl ?_
  refine e_lst ?_
  refine a_cons ?_
  refine e_cb (a_cons (e_var (i := 0) rfl (a_cons (e_raw (a_nil (o_isX ⟨cs i, fs, _, .ref (cs 18), decide (i = 18), rfl, T.ex i hi, fun _ h => h, T.kc i 18 hi (by decide), ?_⟩))))))
  refine a_cons ?_
  refine e_cb (a_cons (e_var (i := 0) rfl (a_cons (e_raw (a_nil (o_isX ⟨cs i, fs, _, .ref (cs 19), decide (i = 19), rfl, T.ex i hi, fun _ h => h, T.kc i 19 hi (by decide), ?_⟩))))))
  refine a_cons ?_
  refine e_cb (a_cons (e_var (i := 0) rfl (a_cons (e_raw (a_nil (o_isX ⟨cs i, fs, _, .ref (cs 20), decide (i = 20), rfl, T.ex i hi, fun _ h => h, T.kc i 20 hi (by decide), ?_⟩))))))
  refine a_nil ⟨sz rfl, ?_⟩
  refine o_cat ⟨_, _, rfl, rfl, sz rfl, ?_⟩
  refine g_name ?_
  refine x_seq ?_
  refine x_asg ?_
  refine e_op ?_
  refine e_var rfl ?_
  refine e_lst ?_
  refine a_cons ?_
  refine e_cb (a_cons (e_var (i := 0) rfl (a_cons (e_raw (a_nil (o_isX ⟨cs i, fs, _, .ref (cs 21), decide (i = 21), rfl, T.ex i hi, fun _ h => h, T.kc i 21 hi (by decide), ?_⟩))))))
  refine a_cons ?_
  refine e_cb (a_cons (e_var (i := 0) rfl (a_cons (e_raw (a_nil (o_isX ⟨cs i, fs, _, .ref (cs 22), decide (i = 22), rfl, T.ex i hi, fun _ h => h, T.kc i 22 hi (by decide), ?_⟩))))))
  refine a_cons ?_
  refine e_cb (a_cons (e_var (i := 0) rfl (a_cons (e_raw (a_nil (o_isX ⟨cs i, fs, _, .ref (cs 23), decide (i = 23), rfl, T.ex i hi, fun _ h => h, T.kc i 23 hi (by decide), ?_⟩))))))
  refine a_nil ⟨sz rfl, ?_⟩
  refine o_cat ⟨_, _, rfl, rfl, sz rfl, ?_⟩
  refine g_name ?_
  refine x_ret ?_
  refine e_op ?_
  refine e_var rfl ?_
  refine e_lst ?_
  refine a_cons ?_
  refine e_cb (a_cons (e_var (i := 0) rfl (a_cons (e_raw (a_nil (o_isX ⟨cs i, fs, _, .ref (cs 24), decide (i = 24), rfl, T.ex i hi, fun _ h => h, T.kc i 24 hi (by decide), ?_⟩))))))
  refine a_nil ⟨sz rfl, ?_⟩
  refine o_cat ⟨_, _, rfl, rfl, sz rfl, ?_⟩
  exact ⟨i, fs, hi, rfl, rfl⟩
abbrev N_law_which_rest : List Str := ["_law_e", "_law_found"]
theorem sc_law_which_rest : FnScope N_law_which_rest ["_law_e"] (defScope s_law_which_rest) := ⟨rfl, rfl, rfl, by decide +kernel, rfl, by decide +kernel, by decide +kernel⟩
theorem ok_law_which_rest (T : Txt P w K mg base ws cs) {f : Addr} {fd : FuncData} (Dd : Df K mg "_law_which_rest" s_law_which_rest ["_law_e"] f fd) : FnOk P w K mg base CX0 1 f fd ["_law_e"] (spD 1 (fun ds => ∃ i fs, i < 32 ∧ ds = [.exc (cs i) fs]) (fun ds d => ∃ i fs, i < 32 ∧ ds = [.exc (cs i) fs] ∧ d = .lst ((List.range 7).map fun j => D.bl (decide (i = j + 25))))) := by
  refine okD Dd.F sc_law_which_rest rfl (fun cdv A outer s H E hr => ?_)
  have nd := sc_law_which_rest.nd
  refine ⟨_, (pss_cons (ps_asg (pe_lst (pa_cons (pe_callB call_isX rfl T.n_isinstance boot_isinstance (pa_cons (pv 0) (pa_cons (pe_glob (v := .ref (cs 25)) rfl T.c25.g rfl) pa_nil))) (pa_cons (pe_callB call_isX rfl T.n_isinstance boot_isinstance (pa_cons (pv 0) (pa_cons (pe_glob (v := .ref (cs 26)) rfl T.c26.g rfl) pa_nil))) (pa_cons (pe_callB call_isX rfl T.n_isinstance boot_isinstance (pa_cons (pv 0) (pa_cons (pe_glob (v := .ref (cs 27)) rfl T.c27.g rfl) pa_nil))) pa_nil)))) (pg_name (i := 1) nd rfl (Or.inl rfl)))
    (pss_cons (ps_asg (pe_op op_cat (pv 1) (pe_lst (pa_cons (pe_callB call_isX rfl T.n_isinstance boot_isinstance (pa_cons (pv 0) (pa_cons (pe_glob (v := .ref (cs 28)) rfl T.c28.g rfl) pa_nil))) (pa_cons (pe_callB call_isX rfl T.n_isinstance boot_isinstance (pa_cons (pv 0) (pa_cons (pe_glob (v := .ref (cs 29)) rfl T.c29.g rfl) pa_nil))) (pa_cons (pe_callB call_isX rfl T.n_isinstance boot_isinstance (pa_cons (pv 0) (pa_cons (pe_glob (v := .ref (cs 30)) rfl T.c30.g rfl) pa_nil))) pa_nil))))) (pg_name (i := 1) nd rfl (Or.inl rfl)))
    (pss_one (ps_ret (pe_op op_cat (pv 1) (pe_lst (pa_cons (pe_callB call_isX rfl T.n_isinstance boot_isinstance (pa_cons (pv 0) (pa_cons (pe_glob (v := .ref (cs 31)) rfl T.c31.g rfl) pa_nil))) pa_nil))))))), fun z ds hl hp => ?_⟩
  obtain ⟨i, fs, hi, rfl⟩ := hp
  refine x_seq ?_
  refine x_asg ?_
  refine e_lst ?_
  refine a_cons ?_
  refine e_cb (a_cons (e_var (i := 0) rfl (a_cons (e_raw (a_nil (o_isX ⟨cs i, fs, _, .ref (cs 25), decide (i = 25), rfl, T.ex i hi, fun _ h => h, T.kc i 25 hi (by decide), ?_⟩))))))
  refine a_cons ?_
  refine e_cb (a_cons (e_var (i := 0) rfl (a_cons (e_raw (a_nil (o_isX ⟨cs i, fs, _, .ref (cs 26), decide (i = 26), rfl, T.ex i hi, fun _ h => h, T.kc i 26 hi (by decide), ?_⟩))))))
  refine a_cons ?_
  refine e_cb (a_cons (e_var (i := 0) rfl (a_cons (e_raw (a_nil (o_isX ⟨cs i, fs, _, .ref (cs 27), decide (i = 27), rfl, T.ex i hi, fun _ h => h, T.kc i 27 hi (by decide), ?_⟩))))))
  refine a_nil ⟨sz rfl, ?_⟩
  refine g_name ?_
  refine x_seq ?_
  refine x_asg ?_
  refine e_op ?_
  refine e_var rfl ?_
  refine e_lst ?_
  refine a_cons ?_
  refine e_cb (a_cons (e_var (i := 0) rfl (a_cons (e_raw (a_nil (o_isX ⟨cs i, fs, _, .ref (cs 28), decide (i = 28), rfl, T.ex i hi, fun _ h => h, T.kc i 28 hi (by decide), ?_⟩))))))
  refine a_cons ?_
  refine e_cb (a_cons (e_var (i := 0) rfl (a_cons (e_raw (a_nil (o_isX ⟨cs i, fs, _, .ref (cs 29), decide (i = 29), rfl, T.ex i hi, fun _ h => h, T.kc i 29 hi (by decide), ?_⟩))))))
  refine a_cons ?_
  refine e_cb (a_cons (e_var (i := 0) rfl (a_cons (e_raw (a_nil (o_isX ⟨cs i, fs, _, .ref (cs 30), decide (i = 30), rfl, T.ex i hi, fun _ h => h, T.kc i 30 hi (by decide), ?_⟩))))))
  refine a_nil ⟨sz rfl, ?_⟩
  refine o_cat ⟨_, _, rfl, rfl, sz rfl, ?_⟩
  refine g_name ?_
  refine x_ret ?_
  refine e_op ?_
  refine e_var rfl ?_
  refine e_lst ?_
  refine a_cons ?_
  refine e_cb (a_cons (e_var (i := 0) rfl (a_cons (e_raw (a_nil (o_isX ⟨cs i, fs, _, .ref (cs 31), decide (i = 31), rfl, T.ex i hi, fun _ h => h, T.kc i 31 hi (by decide), ?_⟩))))))
  refine a_nil ⟨sz rfl, ?_⟩
  refine o_cat ⟨_, _, rfl, rfl, sz rfl, ?_⟩
  exact ⟨i, fs, hi, rfl, rfl⟩
abbrev N_law_bases : List Str := ["_law_e", "_law_found", "_law_kin"]
theorem sc_law_bases : FnScope N_law_bases ["_law_e"] (defScope s_law_bases) := ⟨rfl, rfl, rfl, by decide +kernel, rfl, by decide +kernel, by decide +kernel⟩
theorem ok_law_bases (T : Txt P w K mg base ws cs) {f : Addr} {fd : FuncData} (Dd : Df K mg "_law_bases" s_law_bases ["_law_e"] f fd) : FnOk P w K mg base CX0 1 f fd ["_law_e"] (spD 1 (fun ds => ∃ i fs, i < 32 ∧ ds = [.exc (cs i) fs]) (fun ds d => ∃ i fs, i < 32 ∧ ds = [.exc (cs i) fs] ∧ d = .lst ((List.range 15).map fun t => D.bl (decide (t = bas i ∨ t = bas i + 4))))) := by
  refine okD Dd.F sc_law_bases rfl (fun cdv A outer s H E hr => ?_)
  have nd := sc_law_bases.nd
  refine ⟨_, (pss_cons (ps_asg (pe_lst (pa_cons (pe_callB call_isX rfl T.n_isinstance boot_isinstance (pa_cons (pv 0) (pa_cons (pe_glob (v := .ref (ws 0)) rfl T.w0 rfl) pa_nil))) (pa_cons (pe_callB call_isX rfl T.n_isinstance boot_isinstance (pa_cons (pv 0) (pa_cons (pe_glob (v := .ref (ws 1)) rfl T.w1 rfl) pa_nil))) (pa_cons (pe_callB call_isX rfl T.n_isinstance boot_isinstance (pa_cons (pv 0) (pa_cons (pe_glob (v := .ref (ws 2)) rfl T.w2 rfl) pa_nil))) pa_nil)))) (pg_name (i := 1) nd rfl (Or.inl rfl)))
    (pss_cons (ps_asg (pe_op op_cat (pv 1) (pe_lst (pa_cons (pe_callB call_isX rfl T.n_isinstance boot_isinstance (pa_cons (pv 0) (pa_cons (pe_glob (v := .ref (ws 3)) rfl T.w3 rfl) pa_nil))) (pa_cons (pe_callB call_isX rfl T.n_isinstance boot_isinstance (pa_cons (pv 0) (pa_cons (pe_bltn (v := .ty "ValueError") rfl T.n_ValueError (by decide +kernel) rfl) pa_nil))) (pa_cons (pe_callB call_isX rfl T.n_isinstance boot_isinstance (pa_cons (pv 0) (pa_cons (pe_bltn (v := .ty "LookupError") rfl T.n_LookupError (by decide +kernel) rfl) pa_nil))) pa_nil))))) (pg_name (i := 1) nd rfl (Or.inl rfl)))
    (pss_cons (ps_asg (pe_op op_cat (pv 1) (pe_lst (pa_cons (pe_callB call_isX rfl T.n_isinstance boot_isinstance (pa_cons (pv 0) (pa_cons (pe_bltn (v := .ty "RuntimeError") rfl T.n_RuntimeError (by decide +kernel) rfl) pa_nil))) (pa_cons (pe_callB call_isX rfl T.n_isinstance boot_isinstance (pa_cons (pv 0) (pa_cons (pe_bltn (v := .ty "ArithmeticError") rfl T.n_ArithmeticError (by decide +kernel) rfl) pa_nil))) pa_nil)))) (pg_name (i := 1) nd rfl (Or.inl rfl)))
    (pss_cons (ps_asg (pe_lst (pa_cons (pe_callB call_isX rfl T.n_isinstance boot_isinstance (pa_cons (pv 0) (pa_cons (pe_bltn (v := .ty "TypeError") rfl T.n_TypeError (by decide +kernel) rfl) pa_nil))) (pa_cons (pe_callB call_isX rfl T.n_isinstance boot_isinstance (pa_cons (pv 0) (pa_cons (pe_bltn (v := .ty "KeyError") rfl T.n_KeyError (by decide +kernel) rfl) pa_nil))) (pa_cons (pe_callB call_isX rfl T.n_isinstance boot_isinstance (pa_cons (pv 0) (pa_cons (pe_bltn (v := .ty "IndexError") rfl T.n_IndexError (by decide +kernel) rfl) pa_nil))) (pa_cons (pe_callB call_isX rfl T.n_isinstance boot_isinstance (pa_cons (pv 0) (pa_cons (pe_bltn (v := .ty "OverflowError") rfl T.n_OverflowError (by decide +kernel) rfl) pa_nil))) pa_nil))))) (pg_name (i := 2) nd rfl (Or.inl rfl)))
    (pss_cons (ps_asg (pe_op op_cat (pv 2) (pe_lst (pa_cons (pe_callB call_isX rfl T.n_isinstance boot_isinstance (pa_cons (pv 0) (pa_cons (pe_bltn (v := .ty "ZeroDivisionError") rfl T.n_ZeroDivisionError (by decide +kernel) rfl) pa_nil))) (pa_cons (pe_callB call_isX rfl T.n_isinstance boot_isinstance (pa_cons (pv 0) (pa_cons (pe_bltn (v := .ty "NotImplementedError") rfl T.n_NotImplementedError (by decide +kernel) rfl) pa_nil))) (pa_cons (pe_callB call_isX rfl T.n_isinstance boot_isinstance (pa_cons (pv 0) (pa_cons (pe_bltn (v := .ty "AttributeError") rfl T.n_AttributeError (by decide +kernel) rfl) pa_nil))) pa_nil))))) (pg_name (i := 2) nd rfl (Or.inl rfl)))
    (pss_one (ps_ret (pe_op op_cat (pv 1) (pv 2))))))))), fun z ds hl hp => ?_⟩
  obtain ⟨i, fs, hi, rfl⟩ := hp
  refine x_seq ?_
  refine x_asg ?_
  refine e_lst ?_
  refine a_cons ?_
  refine e_cb (a_cons (e_var (i := 0) rfl (a_cons (e_raw (a_nil (o_isX ⟨cs i, fs, _, .ref (ws 0), decide (0 = bas i ∨ 0 = bas i + 4), rfl, T.ex i hi, fun _ h => h, T.kb i 0 hi (by decide), ?_⟩))))))
  refine a_cons ?_
  refine e_cb (a_cons (e_var (i := 0) rfl (a_cons (e_raw (a_nil (o_isX ⟨cs i, fs, _, .ref (ws 1), decide (1 = bas i ∨ 1 = bas i + 4), rfl, T.ex i hi, fun _ h => h, T.kb i 1 hi (by decide), ?_⟩))))))
  refine a_cons ?_
  refine e_cb (a_cons (e_var (i := 0) rfl (a_cons (e_raw (a_nil (o_isX ⟨cs i, fs, _, .ref (ws 2), decide (2 = bas i ∨ 2 = bas i + 4), rfl, T.ex i hi, fun _ h => h, T.kb i 2 hi (by decide), ?_⟩))))))
  refine a_nil ⟨sz rfl, ?_⟩
  refine g_name ?_
  refine x_seq ?_
  refine x_asg ?_
  refine e_op ?_
  refine e_var rfl ?_
  refine e_lst ?_
  refine a_cons ?_
  refine e_cb (a_cons (e_var (i := 0) rfl (a_cons (e_raw (a_nil (o_isX ⟨cs i, fs, _, .ref (ws 3), decide (3 = bas i ∨ 3 = bas i + 4), rfl, T.ex i hi, fun _ h => h, T.kb i 3 hi (by decide), ?_⟩))))))
  refine a_cons ?_
  refine e_cb (a_cons (e_var (i := 0) rfl (a_cons (e_raw (a_nil (o_isX ⟨cs i, fs, _, .type "ValueError", decide (4 = bas i ∨ 4 = bas i + 4), rfl, T.ex i hi, fun _ h => h, T.kb i 4 hi (by decide), ?_⟩))))))
  refine a_cons ?_
  refine e_cb (a_cons (e_var (i := 0) rfl (a_cons (e_raw (a_nil (o_isX ⟨cs i, fs, _, .type "LookupError", decide (5 = bas i ∨ 5 = bas i + 4), rfl, T.ex i hi, fun _ h => h, T.kb i 5 hi (by decide), ?_⟩))))))
  refine a_nil ⟨sz rfl, ?_⟩
  refine o_cat ⟨_, _, rfl, rfl, sz rfl, ?_⟩
  refine g_name ?_
  refine x_seq ?_
  refine x_asg ?_
  refine e_op ?_
  refine e_var rfl ?_
  refine e_lst ?_
  refine a_cons ?_
  refine e_cb (a_cons (e_var (i := 0) rfl (a_cons (e_raw (a_nil (o_isX ⟨cs i, fs, _, .type "RuntimeError", decide (6 = bas i ∨ 6 = bas i + 4), rfl, T.ex i hi, fun _ h => h, T.kb i 6 hi (by decide), ?_⟩))))))
  refine a_cons ?_
  refine e_cb (a_cons (e_var (i := 0) rfl (a_cons (e_raw (a_nil (o_isX ⟨cs i, fs, _, .type "ArithmeticError", decide (7 = bas i ∨ 7 = bas i + 4), rfl, T.ex i hi, fun _ h => h, T.kb i 7 hi (by decide), ?_⟩))))))
  refine a_nil ⟨sz rfl, ?_⟩
  refine o_cat ⟨_, _, rfl, rfl, sz rfl, ?_⟩
  refine g_name ?_
  refine x_seq ?_
  refine x_asg ?_
  refine e_lst ?_
  refine a_cons ?_
  refine e_cb (a_cons (e_var (i := 0) rfl (a_cons (e_raw (a_nil (o_isX ⟨cs i, fs, _, .type "TypeError", decide (8 = bas i ∨ 8 = bas i + 4), rfl, T.ex i hi, fun _ h => h, T.kb i 8 hi (by decide), ?_⟩))))))
  refine a_cons ?_
  refine e_cb (a_cons (e_var (i := 0) rfl (a_cons (e_raw (a_nil (o_isX ⟨cs i, fs, _, .type "KeyError", decide (9 = bas i ∨ 9 = bas i + 4), rfl, T.ex i hi, fun _ h => h, T.kb i 9 hi (by decide), ?_⟩))))))
  refine a_cons ?_
  refine e_cb (a_cons (e_var (i := 0) rfl (a_cons (e_raw (a_nil (o_isX ⟨cs i, fs, _, .type "IndexError", decide (10 = bas i ∨ 10 = bas i + 4), rfl, T.ex i hi, fun _ h => h, T.kb i 10 hi (by decide), ?_⟩))))))
  refine a_cons ?_
  refine e_cb (a_cons (e_var (i := 0) rfl (a_cons (e_raw (a_nil (o_isX ⟨cs i, fs, _, .type "OverflowError", decide (11 = bas i ∨ 11 = bas i + 4), rfl, T.ex i hi, fun _ h => h, T.kb i 11 hi (by decide), ?_⟩))))))
  refine a_nil ⟨sz rfl, ?_⟩
  refine g_name ?_
  refine x_seq ?_
  refine x_asg ?_
  refine e_op ?_
  refine e_var rfl ?_
  refine e_lst ?_
  refine a_cons ?_
  refine e_cb (a_cons (e_var (i := 0) rfl (a_cons (e_raw (a_nil (o_isX ⟨cs i, fs, _, .type "ZeroDivisionError", decide (12 = bas i ∨ 12 = bas i + 4), rfl, T.ex i hi, fun _ h => h, T.kb i 12 hi (by decide), ?_⟩))))))
  refine a_cons ?_
  refine e_cb (a_cons (e_var (i := 0) rfl (a_cons (e_raw (a_nil (o_isX ⟨cs i, fs, _, .type "NotImplementedError", decide (13 = bas i ∨ 13 = bas i + 4), rfl, T.ex i hi, fun _ h => h, T.kb i 13 hi (by decide), ?_⟩))))))
  refine a_cons ?_
  refine e_cb (a_cons (e_var (i := 0) rfl (a_cons (e_raw (a_nil (o_isX ⟨cs i, fs, _, .type "AttributeError", decide (14 = bas i ∨ 14 = bas i + 4), rfl, T.ex i hi, fun _ h => h, T.kb i 14 hi (by decide), ?_⟩))))))
  refine a_nil ⟨sz rfl, ?_⟩
  refine o_cat ⟨_, _, rfl, rfl, sz rfl, ?_⟩
  refine g_name ?_
  refine x_ret ?_
  refine e_op ?_
  refine e_var rfl ?_
  refine e_var rfl ?_
  refine o_cat ⟨_, _, rfl, rfl, sz rfl, ?_⟩
  exact ⟨i, fs, hi, rfl, rfl⟩
end
end K16

set_option Elab.async false
set_option linter.all false
set_option maxRecDepth 100000
set_option maxHeartbeats 4000000
namespace K16
open PySem PySem.Spec PyProof.Rows L2 PD
theorem iteD {c : Prop} [Decidable c] {A B : Prop} (h1 : c → A) (h2 : ¬ c → B) : if decide c = true then A else B := by
  by_cases h : c
  · rw [if_pos (decide_eq_true h)]; exact h1 h
  · rw [if_neg (by simpa using h)]; exact h2 h
theorem ok_pot {a : Addr} {hs : Addr → Prop} {H : Hp} {i j : Int} {xs : List V} (p : Ok (some a) hs H) (e : H a = some (.lst xs)) (h0 : 0 ≤ i) (h1 : 0 ≤ j) (h2 : j < 2147483648) : ExZ (some a) H (upd H a (.lst [.int i, .int j])) ∧ Ok (some a) hs (upd H a (.lst [.int i, .int j])) := by
  have ex : ExZ (some a) H (upd H a (.lst [.int i, .int j])) := fun b o n h => by rw [upd_ne (fun e => n (by rw [e]))]; exact h
  exact ⟨ex, p.next ex fun b hb => by cases hb; exact ⟨i, j, upd_same, h0, h1, h2⟩⟩
def preDraw (ds : List D) : Prop := ∃ n : Int, ds = [.pot, .int n] ∧ 0 < n ∧ n < 1073741824
def postDraw (ds : List D) (d : D) : Prop := ∃ n k : Int, ds = [.pot, .int n] ∧ d = .int k ∧ 0 ≤ k ∧ k < n
section
variable {P : Program} {w : World} {K : PySem.W.Frag} {mg : Str → Option Value} {base : Heap} {ws cs : Nat → Addr}
abbrev N_law_draw : List Str := ["_law_pot_here", "_law_size", "_law_digit"]
theorem sc_law_draw : FnScope N_law_draw ["_law_pot_here", "_law_size"] (defScope s_law_draw) := ⟨rfl, rfl, rfl, by decide +kernel, rfl, by decide +kernel, by decide +kernel⟩
theorem ok_law_draw (n_divmod : mg "divmod" = none) (n_int : mg "int" = none) {f : Addr} {fd : FuncData} (Dd : Df K mg "_law_draw" s_law_draw ["_law_pot_here", "_law_size"] f fd) : FnOk P w K mg base CX0 1 f fd ["_law_pot_here", "_law_size"] (spD 2 preDraw postDraw) := by
  refine Dd.F.ok sc_law_draw (fun vs H Q E q => by rw [spD_len vs H Q E q]; rfl) (fun cdv A outer s H vs Q E hr h => ?_)
  have nd := sc_law_draw.nd
  obtain ⟨z, hs, ds, hl, ⟨n, rfl, n0, n1⟩, p, r, wd⟩ := h
  have nDiv := n_divmod
  have nInt := n_int
  cases r with
  | cons r1 r =>
  cases r with
  | cons r2 r =>
  cases r
  cases r2
  cases r1 with
  | @pot a e =>
  subst e
  obtain ⟨i, j, ha, i0, j0, j1⟩ := p.pot a rfl
  have ix0 : ∀ H' : Hp, H' a = some (.lst [.int i, .int j]) → SqL K H' a [.int i, .int j] := fun H' h => .inl (.inl h)
  refine ⟨_, pss_cons (ps_if (pt_cmpR op_gt (pe_ix ix_list (pv 0) pe_int (by intro _ _; rfl)) pe_int (nomark _))
      (pss_cons (ps_asg (pe_callB call_divmod rfl nDiv boot_divmod (pa_cons (pe_ix ix_list (pv 0) pe_int (by intro _ _; rfl)) (pa_cons (pv 1) pa_nil)))
        (pg_tup rfl (pgs_cons (pg_sub (pv 0) pe_int set_list) (pgs_cons (pg_name (i := 2) nd rfl (Or.inl rfl)) pgs_nil))))
      (pss_one (ps_ret (pv 2)))) pss_nil)
    (pss_cons (ps_asg (pe_op op_mod (pe_callTy call_int1 rfl nInt boot_int (pa_cons (pe_op op_add (pe_op op_mul (pe_ix ix_list (pv 0) pe_int (by intro _ _; rfl)) pe_int) pe_int) pa_nil)) pe_int) (pg_sub (pv 0) pe_int set_list))
    (pss_one (ps_ret (pe_op op_mod (pe_callTy call_int1 rfl nInt boot_int (pa_cons (pe_op op_fdiv (pe_op op_mod (pe_callTy call_int1 rfl nInt boot_int (pa_cons (pe_op op_mul (pe_ix ix_list (pv 0) pe_int (by intro _ _; rfl)) (pe_ix ix_list (pv 0) pe_int (by intro _ _; rfl))) pa_nil)) pe_int) pe_int) pa_nil)) (pv 1))))), ?_⟩
  refine ⟨_, rfl, a, _, _, _, rfl, rfl, ix0 _ ha, rfl, _, _, rfl, rfl, _, rfl, iteD (fun hi => ?_) (fun hi => ?_)⟩
  · refine ⟨_, rfl, a, _, _, _, rfl, rfl, ix0 _ ha, rfl, _, rfl, _, _, rfl, ⟨n0, n1⟩, fun t nt => ?_⟩
    have nat : a ≠ t := ne_of_none ha nt
    have ha1 : upd H t (.tup [.int (i / n), .int (i % n)]) a = some (.lst [.int i, .int j]) := by rw [upd_ne nat]; exact ha
    refine ⟨t, _, rfl, .inl (.inl upd_same), rfl, _, _, rfl, _, rfl, a, _, _, _, rfl, rfl, ha1, rfl, _, _, rfl, rfl, _, rfl, ?_⟩
    obtain ⟨e2, p2⟩ := ok_pot (p.new (o := .tup [.int (i / n), .int (i % n)]) nt) ha1 (i := i / n) (j := j) (Int.ediv_nonneg i0 (Int.le_of_lt n0)) j0 j1
    exact wd _ _ (.int (i % n)) ((ExZ.new nt).trans e2) p2 (.int _) ⟨n, _, rfl, rfl, Int.emod_nonneg _ (by omega), Int.emod_lt_of_pos _ n0⟩
  · obtain ⟨e2, p2⟩ := ok_pot p ha (i := i) (j := (j * 48271 + 12161) % 2147483587) i0 (by omega) (by omega)
    refine ⟨_, rfl, a, _, _, _, rfl, rfl, ix0 _ ha, rfl, _, _, rfl, rfl, .inl ⟨by omega, by omega⟩, _, _, rfl, rfl, .inl ⟨_, rfl, _, _, rfl, rfl, (by show (0 : Int) < _; decide), ?_⟩⟩
    refine ⟨_, rfl, a, _, _, _, rfl, rfl, ha, rfl, ?_⟩
    have ha2 : upd H a (.lst [.int i, .int ((j * 48271 + 12161) % 2147483587)]) a = some (.lst [.int i, .int ((j * 48271 + 12161) % 2147483587)]) := upd_same
    refine ⟨_, rfl, a, _, _, _, rfl, rfl, .inl (.inl ha2), rfl, _, rfl, a, _, _, _, rfl, rfl, .inl (.inl ha2), rfl, _, _, rfl, rfl, .inl ⟨by omega, by omega⟩, .inl ⟨_, rfl, _, _, rfl, rfl, (by show (0 : Int) < _; decide), _, _, rfl, rfl, ⟨by decide, by decide⟩, .inl ⟨_, rfl, _, rfl, _, _, rfl, rfl, n0, ?_⟩⟩⟩
    exact wd _ _ (.int _) e2 p2 (.int _) ⟨n, _, rfl, rfl, Int.emod_nonneg _ (by omega), Int.emod_lt_of_pos _ n0⟩
end
end K16

set_option Elab.async false
set_option linter.all false
set_option maxRecDepth 100000
set_option maxHeartbeats 4000000
namespace K16
open PySem PySem.Spec PyProof.Rows L2 PD
def prePick (ds : List D) : Prop := ∃ xs, ds = [.pot, .lst xs] ∧ 0 < xs.length ∧ xs.length < 1000000
def postPick (ds : List D) (d : D) : Prop := ∃ xs, ds = [.pot, .lst xs] ∧ d ∈ xs
theorem at_of {α : Type} {xs : List α} {k : Int} (h0 : 0 ≤ k) (h1 : k < xs.length) : ∃ v, atI xs k = some v ∧ v ∈ xs := by
  have hk : k.toNat < xs.length := by omega
  refine ⟨xs[k.toNat], ?_, List.getElem_mem hk⟩
  unfold atI ixN
  rw [if_pos h0, if_pos h1, Option.bind_some, List.getElem?_eq_getElem hk]
theorem small_int {i : Int} (h : i.natAbs < 10 ^ 40) : Small (.int i) := by
  refine ⟨rfl, ?_, ?_, Nat.zero_le _⟩
  · simp only [py, PyData.showable, decide_eq_true_eq]
    by_cases e : i.natAbs = 0
    · rw [e]; decide +kernel
    · exact (Nat.log2_lt e).mpr (Nat.lt_trans h (by decide +kernel))
  · simp only [py, PyData.shown]
    have key : ∀ n : Nat, n < 10 ^ 40 → (Str.ofString (toString (n : Int))).length ≤ 40 := fun n hn => by
      rw [ofString_len]
      exact (Nat.length_repr_le_iff (n := n) (by decide : 0 < 40)).mpr hn
    by_cases hi : i < 0
    · have e := len_text_neg hi
      have := key i.natAbs h
      have e2 : (0 : Int) - i = (i.natAbs : Int) := by omega
      rw [e2] at e
      have e' : (Str.ofString (toString i)).length = 1 + (Str.ofString (toString (i.natAbs : Int))).length := e
      show (Str.ofString (toString i)).length ≤ 1000
      omega
    · have := key i.natAbs h
      have e2 : ((i.natAbs : Nat) : Int) = i := by omega
      rw [e2] at this
      exact Nat.le_trans this (by decide)
section
variable {P : Program} {w : World} {K : PySem.W.Frag} {mg : Str → Option Value} {base : Heap} {ws cs : Nat → Addr}
abbrev N_law_pick : List Str := ["_law_pot_here", "_law_some"]
theorem sc_law_pick : FnScope N_law_pick ["_law_pot_here", "_law_some"] (defScope s_law_pick) := ⟨rfl, rfl, rfl, by decide +kernel, rfl, by decide +kernel, by decide +kernel⟩
theorem ok_law_pick (T : Txt P w K mg base ws cs) {f : Addr} {fd : FuncData} (Dd : Df K mg "_law_pick" s_law_pick ["_law_pot_here", "_law_some"] f fd) : FnOk P w K mg base CX0 2 f fd ["_law_pot_here", "_law_some"] (spD 2 prePick postPick) := by
  obtain ⟨f1, fd1, D1⟩ := T.d_law_draw
  refine okD Dd.F sc_law_pick rfl (fun cdv A outer s H E hr => ?_)
  have nd := sc_law_pick.nd
  refine ⟨_, (pss_one (ps_ret (pe_ix ix_list (pv 1) (pe_call (ok_law_draw T.n_divmod T.n_int D1) (hr.mono (by decide)) rfl D1.m D1.F.kp D1.b .nil pass0 (pa_cons (pv 0) (pa_cons (pe_callB call_len rfl T.n_len boot_len (pa_cons (pv 1) pa_nil)) pa_nil))) (by intro _ _; rfl)))), fun z ds hl hp => ?_⟩
  obtain ⟨xs, rfl, h0, h1⟩ := hp
  refine x_ret ?_
  refine e_op (e_var rfl ?_)
  refine e_call ?_
  refine a_cons (e_var rfl ?_)
  refine a_cons ?_
  refine e_cb (a_cons (e_var rfl (a_nil (o_len ⟨_, _, rfl, rfl, ?_⟩))))
  refine a_nil ⟨rfl, ⟨_, rfl, by omega, by omega⟩, ?_⟩
  rintro d ⟨n, k, e, rfl, k0, k1⟩
  cases e
  obtain ⟨v, hv, hm⟩ := at_of k0 k1
  exact o_ixL ⟨xs, k, v, rfl, rfl, hv, xs, rfl, hm⟩
abbrev N_law_thing : List Str := ["_law_pot_here", "_law_some"]
theorem sc_law_thing : FnScope N_law_thing ["_law_pot_here"] (defScope s_law_thing) := ⟨rfl, rfl, rfl, by decide +kernel, rfl, by decide +kernel, by decide +kernel⟩
def things (a b c : Int) : List D := [.int 0, .int 1, .int (0 - 1), .int a, .int (0 - b), .int (10 ^ (29 : Int).toNat + c), .bl true, .bl false] ++ [.non, .str "", .str "f", .str "-", .str "f.g", .tup [], .tup [.str "f"], .tup [.str "f", .str "g"], .lst [], .lst [.str "f"], .dct [], .dct [(.inr "f", .int 1)], .tup [.non, .int 0]]
theorem small_of {d : D} (h : (isPy d && (py d).showable && decide ((py d).shown.length ≤ 1000) && decide (dp d ≤ 10)) = true) : Small d := by
  simp only [Bool.and_eq_true, decide_eq_true_eq] at h
  exact ⟨h.1.1.1, h.1.1.2, h.1.2, h.2⟩
theorem things_small {a b c : Int} (a0 : 0 ≤ a) (a1 : a < 300) (b0 : 0 ≤ b) (b1 : b < 10 ^ 9) (c0 : 0 ≤ c) (c1 : c < 99) : ∀ d ∈ things a b c, Small d := by
  intro d h
  unfold things at h
  simp only [List.mem_append, List.mem_cons, List.not_mem_nil, or_false] at h
  rcases h with (rfl | rfl | rfl | rfl | rfl | rfl | rfl | rfl) | (rfl | rfl | rfl | rfl | rfl | rfl | rfl | rfl | rfl | rfl | rfl | rfl | rfl)
  · exact small_int (by decide)
  · exact small_int (by decide)
  · exact small_int (by decide)
  · exact small_int (by omega)
  · exact small_int (by omega)
  · exact small_int (by
      have e : (10 : Int) ^ (29 : Int).toNat = 100000000000000000000000000000 := by decide +kernel
      rw [e]
      omega)
  all_goals exact small_of (by decide +kernel)
theorem ok_law_thing (T : Txt P w K mg base ws cs) {f : Addr} {fd : FuncData} (Dd : Df K mg "_law_thing" s_law_thing ["_law_pot_here"] f fd) : FnOk P w K mg base CX0 3 f fd ["_law_pot_here"] (spD 1 (fun ds => ds = [.pot]) fun _ => Small) := by
  obtain ⟨f1, fd1, D1⟩ := T.d_law_draw
  obtain ⟨f2, fd2, D2⟩ := T.d_law_pick
  refine okD Dd.F sc_law_thing rfl (fun cdv A outer s H E hr => ?_)
  have nd := sc_law_thing.nd
  refine ⟨_, (pss_cons (ps_asg (pe_lst (pa_cons pe_int (pa_cons pe_int (pa_cons (pe_op op_sub pe_int pe_int) (pa_cons (pe_call (ok_law_draw T.n_divmod T.n_int D1) (hr.mono (by decide)) rfl D1.m D1.F.kp D1.b .nil pass0 (pa_cons (pv 0) (pa_cons pe_int pa_nil))) (pa_cons (pe_op op_sub pe_int (pe_call (ok_law_draw T.n_divmod T.n_int D1) (hr.mono (by decide)) rfl D1.m D1.F.kp D1.b .nil pass0 (pa_cons (pv 0) (pa_cons (pe_op op_pow pe_int pe_int) pa_nil)))) (pa_cons (pe_op op_add (pe_op op_pow pe_int pe_int) (pe_call (ok_law_draw T.n_divmod T.n_int D1) (hr.mono (by decide)) rfl D1.m D1.F.kp D1.b .nil pass0 (pa_cons (pv 0) (pa_cons pe_int pa_nil)))) (pa_cons pe_bl (pa_cons pe_bl pa_nil))))))))) (pg_name (i := 1) nd rfl (Or.inl rfl)))
    (pss_cons (ps_asg (pe_op op_cat (pv 1) (pe_lst (pa_cons pe_non (pa_cons pe_str (pa_cons pe_str (pa_cons pe_str (pa_cons pe_str (pa_cons (pe_tup pa_nil) (pa_cons (pe_tup (pa_cons pe_str pa_nil)) (pa_cons (pe_tup (pa_cons pe_str (pa_cons pe_str pa_nil))) (pa_cons (pe_lst pa_nil) (pa_cons (pe_lst (pa_cons pe_str pa_nil)) (pa_cons pe_dnewK (pa_cons (pe_disp (pps_cons pe_str pe_int pps_nil) rfl rfl (by simp) (by simp)) (pa_cons (pe_tup (pa_cons pe_non (pa_cons pe_int pa_nil))) pa_nil))))))))))))))) (pg_name (i := 1) nd rfl (Or.inl rfl)))
    (pss_one (ps_ret (pe_call (ok_law_pick T D2) (hr.mono (by decide)) rfl D2.m D2.F.kp D2.b .nil pass0 (pa_cons (pv 0) (pa_cons (pv 1) pa_nil))))))), fun z ds hl hp => ?_⟩
  obtain rfl := hp
  have e9 : (10 : Int) ^ (9 : Int).toNat = 1000000000 := by decide +kernel
  refine x_seq ?_
  refine x_asg ?_
  refine e_lst ?_
  refine a_cons (e_int ?_)
  refine a_cons (e_int ?_)
  refine a_cons ?_
  refine e_op (e_int ?_)
  refine e_int (o_I0 ⟨_, _, rfl, rfl, ?_⟩)
  refine a_cons ?_
  refine e_call ?_
  refine a_cons (e_var rfl ?_)
  refine a_cons (e_int ?_)
  refine a_nil ⟨rfl, ⟨300, rfl, by decide, by decide⟩, ?_⟩
  rintro _ ⟨_, k1, e, rfl, k10, k11⟩
  cases e
  refine a_cons ?_
  refine e_op (e_int ?_)
  refine e_call ?_
  refine a_cons (e_var rfl ?_)
  refine a_cons ?_
  refine e_op (e_int ?_)
  refine e_int (o_I ⟨_, _, rfl, rfl, ⟨by decide, by decide, by decide⟩, ?_⟩)
  refine a_nil ⟨rfl, ⟨_, rfl, by rw [e9]; decide, by rw [e9]; decide⟩, ?_⟩
  rintro _ ⟨_, k2, e, rfl, k20, k21⟩
  cases e
  refine o_I0 ⟨_, _, rfl, rfl, ?_⟩
  refine a_cons ?_
  refine e_op ?_
  refine e_op (e_int ?_)
  refine e_int (o_I ⟨_, _, rfl, rfl, ⟨by decide, by decide, by decide⟩, ?_⟩)
  refine e_call ?_
  refine a_cons (e_var rfl ?_)
  refine a_cons (e_int ?_)
  refine a_nil ⟨rfl, ⟨99, rfl, by decide, by decide⟩, ?_⟩
  rintro _ ⟨_, k3, e, rfl, k30, k31⟩
  cases e
  refine o_I0 ⟨_, _, rfl, rfl, ?_⟩
  refine a_cons (e_bl ?_)
  refine a_cons (e_bl ?_)
  refine a_nil ⟨sz rfl, g_name ?_⟩
  refine x_seq ?_
  refine x_asg ?_
  refine e_op (e_var rfl ?_)
  refine e_lst ?_
  refine a_cons (e_non ?_)
  refine a_cons (e_str ?_)
  refine a_cons (e_str ?_)
  refine a_cons (e_str ?_)
  refine a_cons (e_str ?_)
  refine a_cons (e_tup (a_nil ⟨sz rfl, ?_⟩))
  refine a_cons (e_tup (a_cons (e_str (a_nil ⟨sz rfl, ?_⟩))))
  refine a_cons (e_tup (a_cons (e_str (a_cons (e_str (a_nil ⟨sz rfl, ?_⟩))))))
  refine a_cons (e_lst (a_nil ⟨sz rfl, ?_⟩))
  refine a_cons (e_lst (a_cons (e_str (a_nil ⟨sz rfl, ?_⟩))))
  refine a_cons (e_dnew ?_)
  refine a_cons (e_disp1 ?_)
  refine a_cons (e_tup (a_cons (e_non (a_cons (e_int (a_nil ⟨sz rfl, ?_⟩))))))
  refine a_nil ⟨sz rfl, o_cat ⟨_, _, rfl, rfl, sz rfl, g_name ?_⟩⟩
  refine x_ret ?_
  refine e_call ?_
  refine a_cons (e_var rfl ?_)
  refine a_cons (e_var rfl ?_)
  refine a_nil ⟨rfl, ⟨_, rfl, by simp, by simp⟩, ?_⟩
  rintro d ⟨xs, e, hm⟩
  cases e
  exact things_small k10 k11 k20 (by rw [e9] at k21; exact Int.lt_of_lt_of_le k21 (by decide)) k30 k31 d hm
abbrev N_law_pot : List Str := ["_law_script", "_law_k", "_law_cell"]
theorem sc_law_pot : FnScope N_law_pot ["_law_script", "_law_k"] (defScope s_law_pot) := ⟨rfl, rfl, rfl, by decide +kernel, rfl, by decide +kernel, by decide +kernel⟩
def spPot (K : PySem.W.Frag) : Sp := fun vs H Q _ => ∃ (a : Addr) (k : Int) (ns : List Int), vs = [.ref a, .int k] ∧ 0 ≤ k ∧ k < 4 ∧ SqL K H a (ns.map V.int) ∧ ∀ (p : Addr) (i j : Int), H p = none → 0 ≤ i → 0 ≤ j → j < 2147483648 → Q (.ref p) (upd H p (.lst [.int i, .int j]))
theorem ok_law_pot (T : Txt P w K mg base ws cs) {f : Addr} {fd : FuncData} (Dd : Df K mg "_law_pot" s_law_pot ["_law_script", "_law_k"] f fd) : FnOk P w K mg base CX0 1 f fd ["_law_script", "_law_k"] (spPot K) := by
  refine Dd.F.ok sc_law_pot (fun vs H Q E q => by obtain ⟨a, k, ns, rfl, _⟩ := q; rfl) (fun cdv A outer s H vs Q E hr h => ?_)
  have nd := sc_law_pot.nd
  obtain ⟨a, k, ns, rfl, k0, k1, hS, q⟩ := h
  refine ⟨_, (pss_cons (ps_asg (pe_op op_add (pe_op op_mul pe_int (pv 1)) pe_int) (pg_name (i := 2) nd rfl (Or.inl rfl)))
    (pss_cons (ps_if (pt_cmpR op_lt (pv 1) (pe_callB call_len rfl T.n_len boot_len (pa_cons (pv 0) pa_nil)) (nomark _)) (pss_one (ps_asg (pe_callB call_abs rfl T.n_abs boot_abs (pa_cons (pe_ix ix_list (pv 0) (pv 1) (by intro _ _; rfl)) pa_nil)) (pg_name (i := 2) nd rfl (Or.inl rfl)))) pss_nil)
    (pss_one (ps_ret (pe_lst (pa_cons (pe_callB (call_max2 rfl) rfl T.n_max boot_max (pa_cons pe_int (pa_cons (pe_op op_sub (pv 2) (pe_op op_pow pe_int pe_int)) pa_nil))) (pa_cons (pe_op op_add (pe_op op_mod (pe_op op_mul (pe_callTy call_int1 rfl T.n_int boot_int (pa_cons (pe_op op_add (pe_op op_mod (pe_callTy call_int1 rfl T.n_int boot_int (pa_cons (pv 2) pa_nil)) pe_int) pe_int) pa_nil)) (pe_op op_pow (pe_op op_add (pe_op op_mul pe_int (pv 1)) pe_int) pe_int)) pe_int) pe_int) pa_nil))))))), ?_⟩
  have e18 : (10 : Int) ^ (18 : Int).toNat = 1000000000000000000 := by decide +kernel
  have e3 : (2 * k + 3) ^ (3 : Int).toNat = (2 * k + 3) * (2 * k + 3) * (2 * k + 3) := by
    show (2 * k + 3) ^ 3 = _
    rw [Int.pow_succ, Int.pow_succ, Int.pow_succ, Int.pow_zero, Int.one_mul]
  refine ⟨_, rfl, _, _, rfl, rfl, .inl ⟨by decide, by decide⟩, _, _, rfl, rfl, ?_⟩
  refine ⟨_, rfl, _, rfl, _, _, rfl, .inl ⟨_, hS, rfl⟩, _, _, rfl, rfl, _, rfl, iteD (fun hk => ?_) (fun hk => ?_)⟩
  · rw [List.length_map] at hk
    have hk' : k.toNat < ns.length := by omega
    have hat : atI (ns.map V.int) k = some (V.int ns[k.toNat]) := by
      unfold atI ixN
      rw [if_pos k0, List.length_map, if_pos hk, Option.bind_some, List.getElem?_map, List.getElem?_eq_getElem hk']
      rfl
    refine ⟨_, rfl, _, rfl, a, _, _, _, rfl, rfl, hS, hat, _, rfl, ?_⟩
    refine ⟨_, rfl, _, _, rfl, rfl, ⟨by decide, by decide, by decide⟩, _, _, rfl, rfl, _, _, rfl, ?_⟩
    refine ⟨_, rfl, .inl ⟨_, rfl, _, _, rfl, rfl, (by show (0 : Int) < _; decide), _, _, rfl, rfl, .inl ⟨_, rfl, ?_⟩⟩⟩
    refine ⟨_, rfl, _, _, rfl, rfl, .inl ⟨by decide, by decide⟩, _, _, rfl, rfl, _, _, rfl, rfl, ⟨by decide, by decide, by omega⟩, _, _, rfl, rfl, .inl ⟨by omega, by omega⟩, _, _, rfl, rfl, (by show (0 : Int) < _; decide), _, _, rfl, rfl, ?_⟩
    exact ⟨sz rfl, fun p hp => q p _ _ hp (by split <;> omega) (by omega) (by omega)⟩
  · refine ⟨_, rfl, _, _, rfl, rfl, ⟨by decide, by decide, by decide⟩, _, _, rfl, rfl, _, _, rfl, ?_⟩
    refine ⟨_, rfl, .inl ⟨_, rfl, _, _, rfl, rfl, (by show (0 : Int) < _; decide), _, _, rfl, rfl, .inl ⟨_, rfl, ?_⟩⟩⟩
    refine ⟨_, rfl, _, _, rfl, rfl, .inl ⟨by decide, by decide⟩, _, _, rfl, rfl, _, _, rfl, rfl, ⟨by decide, by decide, by omega⟩, _, _, rfl, rfl, .inl ⟨by omega, by omega⟩, _, _, rfl, rfl, (by show (0 : Int) < _; decide), _, _, rfl, rfl, ?_⟩
    exact ⟨sz rfl, fun p hp => q p _ _ hp (by split <;> omega) (by omega) (by omega)⟩
end
end K16

set_option Elab.async false
set_option linter.all false
set_option maxRecDepth 100000
set_option maxHeartbeats 4000000
namespace K16
open PySem PySem.Spec PyProof.Rows L2 PD
theorem made_at {cs : Nat → Addr} {v u : D} : ∀ i, i < 32 → ∃ fs, (wakeD cs v ++ restD cs v u).getD i .non = .exc (cs i) fs := all32 ⟨_, rfl⟩ ⟨_, rfl⟩ ⟨_, rfl⟩ ⟨_, rfl⟩ ⟨_, rfl⟩ ⟨_, rfl⟩ ⟨_, rfl⟩ ⟨_, rfl⟩ ⟨_, rfl⟩ ⟨_, rfl⟩ ⟨_, rfl⟩ ⟨_, rfl⟩ ⟨_, rfl⟩ ⟨_, rfl⟩ ⟨_, rfl⟩ ⟨_, rfl⟩ ⟨_, rfl⟩ ⟨_, rfl⟩ ⟨_, rfl⟩ ⟨_, rfl⟩ ⟨_, rfl⟩ ⟨_, rfl⟩ ⟨_, rfl⟩ ⟨_, rfl⟩ ⟨_, rfl⟩ ⟨_, rfl⟩ ⟨_, rfl⟩ ⟨_, rfl⟩ ⟨_, rfl⟩ ⟨_, rfl⟩ ⟨_, rfl⟩ ⟨_, rfl⟩
theorem pe_xflK {X : Cx} {K : PySem.W.Frag} {e : Expr} {te : TE} {f : Str} {pos : Pos} (hK : X.K = K) (he : PE X e te) (hb : attributeBase e f X.env (eval e X.env) = eval e X.env := by rfl) : PE X (.Attribute e f pos) (tXfl K "" [] f te) := by
  subst hK
  exact pe_xfl he hb
theorem g_eq {z : Option Addr} {g : TG} {ρ : List Sl} {d d' : D} {N : List Sl → Prop} (h : d = d') (H : G1 z g ρ d' N) : G1 z g ρ d N := h ▸ H
theorem exc_inj {C C' : Addr} {fs fs' : List (Str × D)} (h : [D.exc C fs] = [D.exc C' fs']) : C = C' := by
  injection h with h _
  injection h
theorem range_step (g : Nat → D) (k : Nat) : (List.range k).map g ++ [g k] = (List.range (k + 1)).map g := by
  rw [List.range_succ, List.map_append]
  rfl
theorem inV_two (t a b : Int) : inV (.int t) [.int a, .int b] = (decide (t = a) || decide (t = b)) := by
  have e : ∀ x y : Int, eqV (.int x) (.int y) = decide (y = x) := fun x y => by
    show decide (x = y) = _
    exact decide_eq_decide.mpr ⟨Eq.symm, Eq.symm⟩
  show ((eqV (.int a) (.int t)) || ((eqV (.int b) (.int t)) || false)) = _
  rw [e, e, Bool.or_false]
section
variable {P : Program} {w : World} {K : PySem.W.Frag} {mg : Str → Option Value} {base : Heap} {ws cs : Nat → Addr}
abbrev N_law_classes_right : List Str := ["_law_some", "_law_more", "_law_made", "_law_place", "_law_e", "_law_base", "_law_turn"]
theorem sc_law_classes_right : FnScope N_law_classes_right ["_law_some", "_law_more"] (defScope s_law_classes_right) := ⟨rfl, rfl, rfl, by decide +kernel, rfl, by decide +kernel, by decide +kernel⟩
theorem ok_law_classes_right (T : Txt P w K mg base ws cs) {f : Addr} {fd : FuncData} (Dd : Df K mg "_law_classes_right" s_law_classes_right ["_law_some", "_law_more"] f fd) : FnOk P w K mg base CX0 4 f fd ["_law_some", "_law_more"] (spD 2 (fun _ => True) fun _ d => d = .bl true) := by
  obtain ⟨f1, fd1, D1⟩ := T.d_law_wakes
  obtain ⟨f2, fd2, D2⟩ := T.d_law_rest
  obtain ⟨f3, fd3, D3⟩ := T.d_law_which_wake
  obtain ⟨f4, fd4, D4⟩ := T.d_law_which_rest
  obtain ⟨f5, fd5, D5⟩ := T.d_law_bases
  refine okD Dd.F sc_law_classes_right rfl (fun cdv A outer s H E hr => ?_)
  have nd := sc_law_classes_right.nd
  refine ⟨_, (pss_cons (ps_asg (pe_op op_cat (pe_call (ok_law_wakes T D1) (hr.mono (by decide)) rfl D1.m D1.F.kp D1.b .nil pass0 (pa_cons (pv 0) pa_nil)) (pe_call (ok_law_rest T D2) (hr.mono (by decide)) rfl D2.m D2.F.kp D2.b .nil pass0 (pa_cons (pv 0) (pa_cons (pv 1) pa_nil)))) (pg_name (i := 2) nd rfl (Or.inl rfl)))
    (pss_cons (ps_for PassesOwn.never rfl (pi_enum rfl T.n_enumerate (pa_cons (pv 2) pa_nil)) (pg_tup rfl (pgs_cons (pg_name (i := 3) nd rfl (Or.inr rfl)) (pgs_cons (pg_name (i := 4) nd rfl (Or.inl rfl)) pgs_nil))) (pss_cons (ps_if (pt_cmpR (r := rNeD K) (op_neD hr.units) (pe_op op_cat (pe_call (ok_law_which_wake T D3) (hr.mono (by decide)) rfl D3.m D3.F.kp D3.b .nil pass0 (pa_cons (pv 4) pa_nil)) (pe_call (ok_law_which_rest T D4) (hr.mono (by decide)) rfl D4.m D4.F.kp D4.b .nil pass0 (pa_cons (pv 4) pa_nil))) (pe_lc (own := [("_law_turn", 6)]) (g := gName 6) (tt := tYes) rfl nd (pi_range1 rfl T.n_range (pa_cons (pe_callB call_len rfl T.n_len boot_len (pa_cons (pv 2) pa_nil)) pa_nil)) (blkOk_by (N := N_law_classes_right) (sc := defScope s_law_classes_right) (by decide +kernel)) (fun _ _ _ _ _ => pg_name (i := 6) nd rfl (Or.inl rfl)) (fun _ _ _ _ _ => pts_nil) (fun _ _ _ _ _ => (pe_cmpR op_eq (pv 6) (pv 3) (nomark _)))) (nomark _)) (pss_one (ps_ret pe_bl)) pss_nil)
    (pss_cons (ps_asg (pe_ifExp (pt_cmpR op_lt (pv 3) pe_int (nomark _)) pe_int (pe_ifExp (pt_cmpR op_lt (pv 3) pe_int (nomark _)) pe_int (pe_ifExp (pt_cmpR op_lt (pv 3) pe_int (nomark _)) pe_int pe_int))) (pg_name (i := 5) nd rfl (Or.inr rfl)))
    (pss_one (ps_if (pt_cmpR (r := rNeD K) (op_neD hr.units) (pe_call (ok_law_bases T D5) (hr.mono (by decide)) rfl D5.m D5.F.kp D5.b .nil pass0 (pa_cons (pv 4) pa_nil)) (pe_lc (own := [("_law_turn", 6)]) (g := gName 6) (tt := tYes) rfl nd (pi_range1 rfl T.n_range (pa_cons pe_int pa_nil)) (blkOk_by (N := N_law_classes_right) (sc := defScope s_law_classes_right) (by decide +kernel)) (fun _ _ _ _ _ => pg_name (i := 6) nd rfl (Or.inl rfl)) (fun _ _ _ _ _ => pts_nil) (fun _ _ _ _ _ => (pe_cmpR (r := rIn K false) op_in_seq (pv 6) (pe_tup (pa_cons (pv 5) (pa_cons (pe_op op_add (pv 5) pe_int) pa_nil))) (by with_unfolding_all rfl)))) (nomark _)) (pss_one (ps_ret pe_bl)) pss_nil)))))
    (pss_one (ps_ret pe_bl)))), fun z ds hl hp => ?_⟩
  obtain ⟨v, u, rfl⟩ := len2 hl
  refine x_seq ?_
  refine x_asg ?_
  refine e_op ?_
  refine e_call (a_cons (e_var rfl (a_nil ⟨rfl, trivial, ?_⟩)))
  rintro _ rfl
  refine e_call (a_cons (e_var rfl (a_cons (e_var rfl (a_nil ⟨rfl, trivial, ?_⟩)))))
  rintro _ rfl
  refine o_cat ⟨wakeD cs v, restD cs v u, rfl, rfl, sz rfl, g_name ?_⟩
  refine x_seq ?_
  refine x_for (i_enum (a_cons (e_var rfl (a_nil ⟨_, rfl, fun i ρ => ∃ a b c, ρ = [.va v, .va u, .va (.lst (wakeD cs v ++ restD cs v u)), a, b, c, .un], ⟨_, _, _, rfl⟩, ?_, ?_⟩))))
  · rintro i _ hi ⟨a, b, c, rfl⟩
    have hi : i < 32 := hi
    obtain ⟨fs, hd⟩ := made_at (cs := cs) (v := v) (u := u) i hi
    refine g_eq (d' := .tup [.int (i : Nat), .exc (cs i) fs]) (congrArg (fun x => D.tup [.int (i : Nat), x]) hd) ?_
    refine g_tup ⟨_, rfl, rfl, gs_cons (g_name (gs_cons (g_name (gs_nil ?_))))⟩
    refine x_seq ?_
    refine x_if ?_
    refine t_test ?_
    refine e_op ?_
    refine e_op ?_
    refine e_call (a_cons (e_var rfl (a_nil ⟨rfl, ⟨i, fs, hi, rfl⟩, ?_⟩)))
    rintro _ ⟨i', fs', hi', e, rfl⟩
    obtain rfl : i = i' := T.inj hi hi' (exc_inj e)
    refine e_call (a_cons (e_var rfl (a_nil ⟨rfl, ⟨i, fs, hi, rfl⟩, ?_⟩)))
    rintro _ ⟨i', fs'', hi', e, rfl⟩
    obtain rfl : i = i' := T.inj hi hi' (exc_inj e)
    refine o_cat ⟨_, _, rfl, rfl, sz rfl, ?_⟩
    refine e_lc (i_rng1 (a_cons (e_cb (a_cons (e_var rfl (a_nil (o_len ⟨_, 32, rfl, rfl, ?_⟩)))))))
    refine a_nil ⟨_, rfl, by omega, by omega, by omega, fun k acc => acc = (List.range k).map fun t : Nat => D.bl (decide ((t : Int) = (i : Int))), rfl, ?_, ?_⟩
    · rintro k acc hk _ rfl
      refine ge_name (by decide) (t_yes (iteT (e_op (e_var rfl (e_var rfl (o_eqI ?_))))))
      exact range_step (fun t : Nat => D.bl (decide ((t : Int) = (i : Int)))) k
    · rintro acc _ rfl
      refine o_neB ⟨(List.range 32).map fun j => decide (i = j), rfl, ?_, ?_⟩
      · congr 1
        rw [List.map_map]
        exact List.map_congr_left fun t _ => congrArg D.bl (decide_eq_decide.mpr ⟨fun h => by omega, fun h => by omega⟩)
      refine ⟨_, rfl, iteF (x_next ?_)⟩
      refine x_seq ?_
      refine x_asg (e_imp (P' := fun d => d = .int (bas i : Nat)) ?_ ?_)
      · unfold bas
        refine e_if (t_test (e_op (e_var rfl (e_int (o_I0 ⟨_, _, rfl, rfl, _, rfl, iteD (fun h => ?_) (fun h => ?_)⟩)))))
        · rw [if_pos (by omega)]
          exact e_int rfl
        rw [if_neg (by omega)]
        refine e_if (t_test (e_op (e_var rfl (e_int (o_I0 ⟨_, _, rfl, rfl, _, rfl, iteD (fun h => ?_) (fun h => ?_)⟩)))))
        · rw [if_pos (by omega)]
          exact e_int rfl
        rw [if_neg (by omega)]
        refine e_if (t_test (e_op (e_var rfl (e_int (o_I0 ⟨_, _, rfl, rfl, _, rfl, iteD (fun h => ?_) (fun h => ?_)⟩)))))
        · rw [if_pos (by omega)]
          exact e_int rfl
        rw [if_neg (by omega)]
        exact e_int rfl
      rintro _ rfl
      refine g_name ?_
      refine x_if ?_
      refine t_test ?_
      refine e_op ?_
      refine e_call (a_cons (e_var rfl (a_nil ⟨rfl, ⟨i, fs, hi, rfl⟩, ?_⟩)))
      rintro _ ⟨i', fs', hi', e, rfl⟩
      obtain rfl : i = i' := T.inj hi hi' (exc_inj e)
      refine e_lc (i_rng1 ?_)
      refine a_cons (e_int (a_nil ⟨15, rfl, by omega, by omega, by omega, fun k acc => acc = (List.range k).map fun t : Nat => D.bl (decide ((t : Int) = (bas i : Nat)) || decide ((t : Int) = (bas i : Nat) + 4)), rfl, ?_, ?_⟩))
      · rintro k acc hk _ rfl
        refine ge_name (by decide) (t_yes (iteT (e_op (e_var rfl ?_))))
        refine e_tup (a_cons (e_var rfl ?_))
        refine a_cons (e_op (e_var rfl (e_int (o_I0 ⟨_, _, rfl, rfl, ?_⟩))))
        refine a_nil ⟨sz rfl, o_in ⟨_, _, _, .inr rfl, rfl, rfl, rfl, rfl, ?_⟩⟩
        show List.map _ _ ++ [D.bl (inV _ _)] = _
        rw [inV_two]
        exact range_step (fun t : Nat => D.bl (decide ((t : Int) = (bas i : Nat)) || decide ((t : Int) = (bas i : Nat) + 4))) k
      · rintro acc _ rfl
        refine o_neB ⟨(List.range 15).map fun t => decide (t = bas i ∨ t = bas i + 4), ?_, ?_, ?_⟩
        · rw [List.map_map]
          rfl
        · congr 1
          rw [List.map_map]
          refine List.map_congr_left fun t _ => congrArg D.bl ?_
          rw [← Bool.decide_or]
          exact decide_eq_decide.mpr ⟨fun h => by omega, fun h => by omega⟩
        · exact ⟨_, rfl, iteF (x_next ⟨_, _, _, rfl⟩)⟩
  · rintro _ ⟨a, b, c, rfl⟩
    exact x_ret (e_bl rfl)
end
end K16

set_option Elab.async false
set_option linter.all false
set_option maxRecDepth 100000
set_option maxHeartbeats 4000000
namespace K16
open PySem PySem.Spec PyProof.Rows L2 PD
def HasF (K : PySem.W.Frag) (f : Str) (v d : D) : Prop := ∃ C fs, d = .exc C fs ∧ (∃ n b, OxB K C n b) ∧ PySem.W.findIn K (.ref C) f = some none ∧ fs.lookup f = some v
def AllF (K : PySem.W.Frag) (f : Str) (v : D) : List D → Prop
  | [] => True
  | d :: ds => HasF K f v d ∧ AllF K f v ds
theorem allF_mem {K : PySem.W.Frag} {f : Str} {v : D} : ∀ {ds : List D}, AllF K f v ds → ∀ i, i < ds.length → HasF K f v (ds.getD i .non)
  | [], _, _, h => absurd h (by simp)
  | _ :: _, h, 0, _ => h.1
  | _ :: _, h, i + 1, hi => by
    have := allF_mem h.2 i (by simpa using hi)
    simpa using this
theorem hasF_of {P : Program} {w : World} {K : PySem.W.Frag} {mg : Str → Option Value} {base : Heap} {nm : Str} {B n i : String} {fs : List Str} {C : Addr} {gs : List (Str × D)} {f : Str} {v : D} (c : Cl P w K mg base nm B n i fs C) (hf : f ∈ fs) (hl : gs.lookup f = some v) : HasF K f v (.exc C gs) :=
  ⟨C, gs, rfl, ⟨_, _, c.ox⟩, c.nf f hf, hl⟩
section
variable {z : Option Addr} {ρ : List (Option D)} {K : PySem.W.Frag} {P : D → Prop} {f : Str} {v : D} {te tl : TE} {j : Nat}
theorem e_xflF (h : E1 z te ρ fun d => HasF K f v d ∧ P v) : E1 z (tXfl K "" [] f te) ρ P := e_xfl (e_imp h fun d ⟨⟨C, fs, e, ox, nf, l⟩, q⟩ => ⟨C, fs, v, e, ox, nf, l, q⟩)
/-- [e.f for e in xs] where every field is the same -/
theorem e_lcF (hj0 : Nat.ble (j + 1) ρ.length = true) (h : E1 z tl ρ fun d => ∃ xs n, d = .lst xs ∧ xs.length = n ∧ n ≤ 1000 ∧ AllF K f v xs ∧ P (.lst (List.replicate n v))) : E1 z (tLc (iList K tl) (gName j) tYes (tXfl K "" [] f (tVar j)) [j]) ρ P := by
  have hj : j < ρ.length := Nat.le_of_ble_eq_true hj0
  refine e_lc (i_list (e_imp h ?_))
  rintro d ⟨xs, n, rfl, rfl, hn, hf, q⟩
  refine ⟨xs, rfl, by omega, fun i acc => acc = List.replicate i v, rfl, ?_, ?_⟩
  · rintro i _ hi _ rfl
    obtain ⟨C, fs, e, ox, nf, l⟩ := allF_mem hf i hi
    refine ge_name (by simp) (t_yes (iteT (e_xfl (e_var (d := xs.getD i .non) ?_ ⟨C, fs, v, e, ox, nf, l, ?_⟩))))
    · rw [List.getElem?_set, if_pos rfl, if_pos (by show j < ((ρ.set j none)).length; rw [List.length_set]; exact hj)]
    · exact (List.replicate_succ').symm
  · rintro _ _ rfl
    exact q
/-- repr([e.f for ..]) != repr([v] * n): False -/
theorem iteN {i j : Str} {A B : Prop} (h : i = j) (hb : B) : if (!decide (i = j)) = true then A else B := by
  rw [if_neg (by simp [h])]
  exact hb
theorem small_rep {n : Nat} (h : Small v) : ∀ d ∈ List.replicate n v, Small d := fun d hd => by
  rw [(List.mem_replicate.mp hd).2]
  exact h
end
section
variable {P : Program} {w : World} {K : PySem.W.Frag} {mg : Str → Option Value} {base : Heap} {ws cs : Nat → Addr}
def preVU (ds : List D) : Prop := ∃ v u, ds = [v, u] ∧ Small v ∧ Small u
abbrev N_law_fields_right : List Str := ["_law_some", "_law_more", "_law_made", "_law_rest_here", "_law_told", "_law_e"]
theorem sc_law_fields_right : FnScope N_law_fields_right ["_law_some", "_law_more"] (defScope s_law_fields_right) := ⟨rfl, rfl, rfl, by decide +kernel, rfl, by decide +kernel, by decide +kernel⟩
theorem ok_law_fields_right (T : Txt P w K mg base ws cs) {f : Addr} {fd : FuncData} (Dd : Df K mg "_law_fields_right" s_law_fields_right ["_law_some", "_law_more"] f fd) : FnG P w K mg base CX0 4 f fd ["_law_some", "_law_more"] (spD 2 preVU fun _ d => d = .bl true) := by
  obtain ⟨f1, fd1, D1⟩ := T.d_law_wakes
  obtain ⟨f2, fd2, D2⟩ := T.d_law_rest
  refine okDG Dd.F sc_law_fields_right rfl (fun cdv A outer s H E hgd hr => ?_)
  have nd := sc_law_fields_right.nd
  refine ⟨_, (pss_cons (ps_par (i := 2) (j := 3) rfl nd rfl rfl (by decide) rfl rfl (pa_cons (pe_call (ok_law_wakes T D1) (hr.mono (by decide)) rfl D1.m D1.F.kp D1.b .nil pass0 (pa_cons (pv 0) pa_nil)) (pa_cons (pe_call (ok_law_rest T D2) (hr.mono (by decide)) rfl D2.m D2.F.kp D2.b .nil pass0 (pa_cons (pv 0) (pa_cons (pv 1) pa_nil))) pa_nil)) (by rfl))
    (pss_cons (ps_if (pt_cmpR op_ne (pe_callB (call_reprD hgd hr.units) rfl T.n_repr boot_repr (pa_cons (pe_lc (own := [("_law_e", 5)]) (g := gName 5) (tt := tYes) rfl nd (pi_list (pe_op op_cat (pe_slice sl_list (pv 2) po_none (po_some pe_int)) (pe_slice sl_list (pv 3) po_none (po_some pe_int)))) (blkOk_by (N := N_law_fields_right) (sc := defScope s_law_fields_right) (by decide +kernel)) (fun _ _ _ _ _ => pg_name (i := 5) nd rfl (Or.inl rfl)) (fun _ _ _ _ _ => pts_nil) (fun _ _ _ _ _ => (pe_xflK (K := K) rfl (pv 5)))) pa_nil)) (pe_callB (call_reprD hgd hr.units) rfl T.n_repr boot_repr (pa_cons (pe_op op_rep (pe_lst (pa_cons (pv 0) pa_nil)) pe_int) pa_nil)) (nomark _)) (pss_one (ps_ret pe_bl)) pss_nil)
    (pss_cons (ps_if (PW.pt (pw_or (pt_cmpR op_ne (pe_callB (call_reprD hgd hr.units) rfl T.n_repr boot_repr (pa_cons (pe_lc (own := [("_law_e", 5)]) (g := gName 5) (tt := tYes) rfl nd (pi_list (pe_op op_cat (pe_slice sl_list (pv 2) (po_some pe_int) (po_some pe_int)) (pe_lst (pa_cons (pe_ix ix_list (pv 3) pe_int (by intro _ _; rfl)) pa_nil)))) (blkOk_by (N := N_law_fields_right) (sc := defScope s_law_fields_right) (by decide +kernel)) (fun _ _ _ _ _ => pg_name (i := 5) nd rfl (Or.inl rfl)) (fun _ _ _ _ _ => pts_nil) (fun _ _ _ _ _ => (pe_xflK (K := K) rfl (pv 5)))) pa_nil)) (pe_callB (call_reprD hgd hr.units) rfl T.n_repr boot_repr (pa_cons (pe_op op_rep (pe_lst (pa_cons (pv 0) pa_nil)) pe_int) pa_nil)) (nomark _)) (pw_or1 (pt_cmpR op_ne (pe_callB (call_reprD hgd hr.units) rfl T.n_repr boot_repr (pa_cons (pe_xflK (K := K) rfl (pe_ix ix_list (pv 2) pe_int (by intro _ _; rfl))) pa_nil)) (pe_callB (call_reprD hgd hr.units) rfl T.n_repr boot_repr (pa_cons (pv 0) pa_nil)) (nomark _))))) (pss_one (ps_ret pe_bl)) pss_nil)
    (pss_cons (ps_asg (pe_lst (pa_cons (pe_xflK (K := K) rfl (pe_ix ix_list (pv 3) pe_int (by intro _ _; rfl))) (pa_cons (pe_xflK (K := K) rfl (pe_ix ix_list (pv 3) pe_int (by intro _ _; rfl))) (pa_cons (pe_xflK (K := K) rfl (pe_ix ix_list (pv 3) pe_int (by intro _ _; rfl))) (pa_cons (pe_xflK (K := K) rfl (pe_ix ix_list (pv 3) pe_int (by intro _ _; rfl))) pa_nil))))) (pg_name (i := 4) nd rfl (Or.inl rfl)))
    (pss_one (ps_ret (pe_cmpR op_eq (pe_callB (call_reprD hgd hr.units) rfl T.n_repr boot_repr (pa_cons (pv 4) pa_nil)) (pe_callB (call_reprD hgd hr.units) rfl T.n_repr boot_repr (pa_cons (pe_lst (pa_cons (pv 0) (pa_cons (pv 1) (pa_cons (pv 0) (pa_cons (pv 1) pa_nil))))) pa_nil)) (nomark _)))))))), fun z ds hl hp => ?_⟩
  obtain ⟨v, u, rfl, hv, hu⟩ := hp
  refine x_seq ?_
  refine x_par ?_
  refine a_cons ?_
  refine e_call (a_cons (e_var rfl (a_nil ⟨rfl, trivial, ?_⟩)))
  rintro _ rfl
  refine a_cons ?_
  refine e_call (a_cons (e_var rfl (a_cons (e_var rfl (a_nil ⟨rfl, trivial, ?_⟩)))))
  rintro _ rfl
  refine a_nil ⟨.lst (wakeD cs v), .lst (restD cs v u), rfl, ?_⟩
  refine x_seq ?_
  refine x_if ?_
  refine t_test ?_
  refine e_op ?_
  refine e_cb ?_
  refine a_cons ?_
  refine e_lcF (v := v) rfl ?_
  refine e_op ?_
  refine e_sl (e_var rfl (o_none (o_some (e_int ⟨15, rfl, o_slL ⟨_, rfl, ?_⟩⟩))))
  refine e_sl (e_var rfl (o_none (o_some (e_int ⟨3, rfl, o_slL ⟨_, rfl, ?_⟩⟩))))
  refine o_cat ⟨_, _, rfl, rfl, sz rfl, _, 18, rfl, rfl, by decide, (And.intro (hasF_of T.c0 (by simp) rfl) (And.intro (hasF_of T.c1 (by simp) rfl) (And.intro (hasF_of T.c2 (by simp) rfl) (And.intro (hasF_of T.c3 (by simp) rfl) (And.intro (hasF_of T.c4 (by simp) rfl) (And.intro (hasF_of T.c5 (by simp) rfl) (And.intro (hasF_of T.c6 (by simp) rfl) (And.intro (hasF_of T.c7 (by simp) rfl) (And.intro (hasF_of T.c8 (by simp) rfl) (And.intro (hasF_of T.c9 (by simp) rfl) (And.intro (hasF_of T.c10 (by simp) rfl) (And.intro (hasF_of T.c11 (by simp) rfl) (And.intro (hasF_of T.c12 (by simp) rfl) (And.intro (hasF_of T.c13 (by simp) rfl) (And.intro (hasF_of T.c14 (by simp) rfl) (And.intro (hasF_of T.c25 (by simp) rfl) (And.intro (hasF_of T.c26 (by simp) rfl) (And.intro (hasF_of T.c27 (by simp) rfl) trivial)))))))))))))))))), ?_⟩
  refine a_nil (o_reprL (small_rep hv) (by simp) ?_)
  refine e_cb ?_
  refine a_cons ?_
  refine e_op (e_lst (a_cons (e_var rfl (a_nil ⟨sz rfl, ?_⟩))))
  refine e_int (o_rep1 ⟨v, 18, rfl, rfl, by decide, ?_⟩)
  refine a_nil (o_reprL (small_rep hv) (by simp) ?_)
  refine o_neS ⟨_, rfl, iteN rfl (x_next ?_)⟩
  refine x_seq ?_
  refine x_if ?_
  refine t_or ?_
  refine t_test ?_
  refine e_op ?_
  refine e_cb ?_
  refine a_cons ?_
  refine e_lcF (v := v) rfl ?_
  refine e_op ?_
  refine e_sl (e_var rfl (o_some (e_int ⟨15, rfl, o_some (e_int ⟨24, rfl, o_slL ⟨_, rfl, ?_⟩⟩)⟩)))
  refine e_lst (a_cons (e_op (e_var rfl (e_int (o_ixL ⟨_, 5, _, rfl, rfl, rfl, ?_⟩)))))
  refine a_nil ⟨sz rfl, o_cat ⟨_, _, rfl, rfl, sz rfl, _, 10, rfl, rfl, by decide, (And.intro (hasF_of T.c15 (by simp) rfl) (And.intro (hasF_of T.c16 (by simp) rfl) (And.intro (hasF_of T.c17 (by simp) rfl) (And.intro (hasF_of T.c18 (by simp) rfl) (And.intro (hasF_of T.c19 (by simp) rfl) (And.intro (hasF_of T.c20 (by simp) rfl) (And.intro (hasF_of T.c21 (by simp) rfl) (And.intro (hasF_of T.c22 (by simp) rfl) (And.intro (hasF_of T.c23 (by simp) rfl) (And.intro (hasF_of T.c30 (by simp) rfl) trivial)))))))))), ?_⟩⟩
  refine a_nil (o_reprL (small_rep hv) (by simp) ?_)
  refine e_cb ?_
  refine a_cons ?_
  refine e_op (e_lst (a_cons (e_var rfl (a_nil ⟨sz rfl, ?_⟩))))
  refine e_int (o_rep1 ⟨v, 10, rfl, rfl, by decide, ?_⟩)
  refine a_nil (o_reprL (small_rep hv) (by simp) ?_)
  refine o_neS ⟨_, rfl, iteN rfl ?_⟩
  refine t_test ?_
  refine e_op ?_
  refine e_cb ?_
  refine a_cons ?_
  refine e_xflF (v := v) ?_
  refine e_op (e_var rfl (e_int (o_ixL ⟨_, 24, _, rfl, rfl, rfl, hasF_of T.c24 (by simp) rfl, ?_⟩)))
  refine a_nil (o_reprS hv ?_)
  refine e_cb ?_
  refine a_cons (e_var rfl ?_)
  refine a_nil (o_reprS hv ?_)
  refine o_neS ⟨_, rfl, iteN rfl ?_⟩
  refine x_next ?_
  refine x_seq ?_
  refine x_asg ?_
  refine e_lst ?_
  refine a_cons ?_
  refine e_xflF (v := v) ?_
  refine e_op (e_var rfl (e_int (o_ixL ⟨_, 4, _, rfl, rfl, rfl, hasF_of T.c29 (by simp) rfl, ?_⟩)))
  refine a_cons ?_
  refine e_xflF (v := u) ?_
  refine e_op (e_var rfl (e_int (o_ixL ⟨_, 4, _, rfl, rfl, rfl, hasF_of T.c29 (by simp) rfl, ?_⟩)))
  refine a_cons ?_
  refine e_xflF (v := v) ?_
  refine e_op (e_var rfl (e_int (o_ixL ⟨_, 6, _, rfl, rfl, rfl, hasF_of T.c31 (by simp) rfl, ?_⟩)))
  refine a_cons ?_
  refine e_xflF (v := u) ?_
  refine e_op (e_var rfl (e_int (o_ixL ⟨_, 6, _, rfl, rfl, rfl, hasF_of T.c31 (by simp) rfl, ?_⟩)))
  refine a_nil ⟨sz rfl, g_name ?_⟩
  have sm : ∀ d ∈ [v, u, v, u], Small d := fun d hd => by
    simp only [List.mem_cons, List.not_mem_nil, or_false] at hd
    rcases hd with rfl | rfl | rfl | rfl <;> assumption
  refine x_ret ?_
  refine e_op ?_
  refine e_cb (a_cons (e_var rfl (a_nil (o_reprL sm (by simp) ?_))))
  refine e_cb ?_
  refine a_cons ?_
  refine e_lst (a_cons (e_var rfl (a_cons (e_var rfl (a_cons (e_var rfl (a_cons (e_var rfl (a_nil ⟨sz rfl, ?_⟩)))))))))
  refine a_nil (o_reprL sm (by simp) ?_)
  exact o_eqS (congrArg D.bl (decide_eq_true rfl))
end
end K16

set_option Elab.async false
set_option linter.all false
set_option maxRecDepth 100000
set_option maxHeartbeats 4000000
namespace K16
open PySem PySem.Spec PyProof.Rows L2 PD
section
variable {P : Program} {w : World} {K : PySem.W.Frag} {mg : Str → Option Value} {base : Heap} {ws cs : Nat → Addr}
abbrev N_law_named_right : List Str := ["_law_some", "_law_more", "_law_found", "_law_spots", "_law_cant", "_law_far", "_law_told", "_law_e"]
theorem sc_law_named_right : FnScope N_law_named_right ["_law_some", "_law_more"] (defScope s_law_named_right) := ⟨rfl, rfl, rfl, by decide +kernel, rfl, by decide +kernel, by decide +kernel⟩
theorem ok_law_named_right (T : Txt P w K mg base ws cs) {f : Addr} {fd : FuncData} (Dd : Df K mg "_law_named_right" s_law_named_right ["_law_some", "_law_more"] f fd) : FnG P w K mg base CX0 4 f fd ["_law_some", "_law_more"] (spD 2 preVU fun _ d => d = .bl true) := by

  refine okDG Dd.F sc_law_named_right rfl (fun cdv A outer s H E hgd hr => ?_)
  have nd := sc_law_named_right.nd
  refine ⟨_, (pss_cons (ps_asg (pe_lst (pa_cons (pe_clK T.c0 (hr.mono (by decide)) pass0 rfl (pk_cons (pv 0) pk_nil)) (pa_cons (pe_clK T.c1 (hr.mono (by decide)) pass0 rfl (pk_cons (pv 0) pk_nil)) (pa_cons (pe_clK T.c2 (hr.mono (by decide)) pass0 rfl (pk_cons (pv 0) pk_nil)) (pa_cons (pe_clK T.c3 (hr.mono (by decide)) pass0 rfl (pk_cons (pv 0) pk_nil)) pa_nil))))) (pg_name (i := 2) nd rfl (Or.inl rfl)))
    (pss_cons (ps_asg (pe_op op_cat (pv 2) (pe_lst (pa_cons (pe_clK T.c4 (hr.mono (by decide)) pass0 rfl (pk_cons (pv 0) pk_nil)) (pa_cons (pe_clK T.c5 (hr.mono (by decide)) pass0 rfl (pk_cons (pv 0) pk_nil)) (pa_cons (pe_clK T.c6 (hr.mono (by decide)) pass0 rfl (pk_cons (pv 0) pk_nil)) pa_nil))))) (pg_name (i := 2) nd rfl (Or.inl rfl)))
    (pss_cons (ps_asg (pe_op op_cat (pv 2) (pe_lst (pa_cons (pe_clK T.c7 (hr.mono (by decide)) pass0 rfl (pk_cons (pv 0) pk_nil)) (pa_cons (pe_clK T.c8 (hr.mono (by decide)) pass0 rfl (pk_cons (pv 0) pk_nil)) (pa_cons (pe_clK T.c9 (hr.mono (by decide)) pass0 rfl (pk_cons (pv 0) pk_nil)) pa_nil))))) (pg_name (i := 2) nd rfl (Or.inl rfl)))
    (pss_cons (ps_asg (pe_op op_cat (pv 2) (pe_lst (pa_cons (pe_clK T.c10 (hr.mono (by decide)) pass0 rfl (pk_cons (pv 0) pk_nil)) (pa_cons (pe_clK T.c11 (hr.mono (by decide)) pass0 rfl (pk_cons (pv 0) pk_nil)) (pa_cons (pe_clK T.c12 (hr.mono (by decide)) pass0 rfl (pk_cons (pv 0) pk_nil)) pa_nil))))) (pg_name (i := 2) nd rfl (Or.inl rfl)))
    (pss_cons (ps_asg (pe_op op_cat (pv 2) (pe_lst (pa_cons (pe_clK T.c13 (hr.mono (by decide)) pass0 rfl (pk_cons (pv 0) pk_nil)) (pa_cons (pe_clK T.c14 (hr.mono (by decide)) pass0 rfl (pk_cons (pv 0) pk_nil)) (pa_cons (pe_clK T.c25 (hr.mono (by decide)) pass0 rfl (pk_cons (pv 0) pk_nil)) pa_nil))))) (pg_name (i := 2) nd rfl (Or.inl rfl)))
    (pss_cons (ps_asg (pe_op op_cat (pv 2) (pe_lst (pa_cons (pe_clK T.c26 (hr.mono (by decide)) pass0 rfl (pk_cons (pv 0) pk_nil)) (pa_cons (pe_clK T.c27 (hr.mono (by decide)) pass0 rfl (pk_cons (pv 0) pk_nil)) pa_nil)))) (pg_name (i := 2) nd rfl (Or.inl rfl)))
    (pss_cons (ps_asg (pe_lst (pa_cons (pe_clK T.c15 (hr.mono (by decide)) pass0 rfl (pk_cons (pv 0) pk_nil)) (pa_cons (pe_clK T.c16 (hr.mono (by decide)) pass0 rfl (pk_cons (pv 0) pk_nil)) (pa_cons (pe_clK T.c17 (hr.mono (by decide)) pass0 rfl (pk_cons (pv 0) pk_nil)) pa_nil)))) (pg_name (i := 3) nd rfl (Or.inl rfl)))
    (pss_cons (ps_asg (pe_op op_cat (pv 3) (pe_lst (pa_cons (pe_clK T.c18 (hr.mono (by decide)) pass0 rfl (pk_cons (pv 0) pk_nil)) (pa_cons (pe_clK T.c19 (hr.mono (by decide)) pass0 rfl (pk_cons (pv 0) pk_nil)) (pa_cons (pe_clK T.c20 (hr.mono (by decide)) pass0 rfl (pk_cons (pv 0) pk_nil)) pa_nil))))) (pg_name (i := 3) nd rfl (Or.inl rfl)))
    (pss_cons (ps_asg (pe_op op_cat (pv 3) (pe_lst (pa_cons (pe_clK T.c21 (hr.mono (by decide)) pass0 rfl (pk_cons (pv 0) pk_nil)) (pa_cons (pe_clK T.c22 (hr.mono (by decide)) pass0 rfl (pk_cons (pv 0) pk_nil)) (pa_cons (pe_clK T.c23 (hr.mono (by decide)) pass0 rfl (pk_cons (pv 0) pk_nil)) pa_nil))))) (pg_name (i := 3) nd rfl (Or.inl rfl)))
    (pss_cons (ps_expr (pe_bm PySem.F.plainAttrs_list PySem.F.slot_list_append PySem.F.type_list_append mt_append (pv 3) (pa_cons (pe_clK T.c30 (hr.mono (by decide)) pass0 rfl (pk_cons (pv 0) pk_nil)) pa_nil)))
    (pss_cons (ps_if (PW.pt (pw_or (pt_cmpR op_ne (pe_callB (call_reprD hgd hr.units) rfl T.n_repr boot_repr (pa_cons (pe_lc (own := [("_law_e", 7)]) (g := gName 7) (tt := tYes) rfl nd (pi_list (pv 2)) (blkOk_by (N := N_law_named_right) (sc := defScope s_law_named_right) (by decide +kernel)) (fun _ _ _ _ _ => pg_name (i := 7) nd rfl (Or.inl rfl)) (fun _ _ _ _ _ => pts_nil) (fun _ _ _ _ _ => (pe_xflK (K := K) rfl (pv 7)))) pa_nil)) (pe_callB (call_reprD hgd hr.units) rfl T.n_repr boot_repr (pa_cons (pe_op op_rep (pe_lst (pa_cons (pv 0) pa_nil)) pe_int) pa_nil)) (nomark _)) (pw_or1 (pt_cmpR op_ne (pe_callB (call_reprD hgd hr.units) rfl T.n_repr boot_repr (pa_cons (pe_lc (own := [("_law_e", 7)]) (g := gName 7) (tt := tYes) rfl nd (pi_list (pv 3)) (blkOk_by (N := N_law_named_right) (sc := defScope s_law_named_right) (by decide +kernel)) (fun _ _ _ _ _ => pg_name (i := 7) nd rfl (Or.inl rfl)) (fun _ _ _ _ _ => pts_nil) (fun _ _ _ _ _ => (pe_xflK (K := K) rfl (pv 7)))) pa_nil)) (pe_callB (call_reprD hgd hr.units) rfl T.n_repr boot_repr (pa_cons (pe_op op_rep (pe_lst (pa_cons (pv 0) pa_nil)) pe_int) pa_nil)) (nomark _))))) (pss_one (ps_ret pe_bl)) pss_nil)
    (pss_cons (ps_par (i := 4) (j := 5) rfl nd rfl rfl (by decide) rfl rfl (pa_cons (pe_clK T.c29 (hr.mono (by decide)) pass0 rfl (pk_cons (pv 1) (pk_cons (pv 0) pk_nil))) (pa_cons (pe_clK T.c31 (hr.mono (by decide)) pass0 rfl (pk_cons (pv 1) (pk_cons (pv 0) pk_nil))) pa_nil)) (by rfl))
    (pss_cons (ps_asg (pe_lst (pa_cons (pe_xflK (K := K) rfl (pe_clK T.c24 (hr.mono (by decide)) pass0 rfl (pk_cons (pv 0) pk_nil))) (pa_cons (pe_xflK (K := K) rfl (pv 4)) (pa_cons (pe_xflK (K := K) rfl (pv 4)) (pa_cons (pe_xflK (K := K) rfl (pv 5)) (pa_cons (pe_xflK (K := K) rfl (pv 5)) pa_nil)))))) (pg_name (i := 6) nd rfl (Or.inl rfl)))
    (pss_one (ps_ret (pe_cmpR op_eq (pe_callB (call_reprD hgd hr.units) rfl T.n_repr boot_repr (pa_cons (pv 6) pa_nil)) (pe_callB (call_reprD hgd hr.units) rfl T.n_repr boot_repr (pa_cons (pe_lst (pa_cons (pv 0) (pa_cons (pv 0) (pa_cons (pv 1) (pa_cons (pv 0) (pa_cons (pv 1) pa_nil)))))) pa_nil)) (nomark _))))))))))))))))), fun z ds hl hp => ?_⟩
  obtain ⟨v, u, rfl, hv, hu⟩ := hp
  refine x_seq ?_
  refine x_asg ?_
  refine e_lst ?_
  refine a_cons ?_
  refine e_mkvR ?_
  refine a_cons (e_var (i := 0) rfl ?_)
  refine a_nil ⟨rfl, rfl, ?_⟩
  refine a_cons ?_
  refine e_mkvR ?_
  refine a_cons (e_var (i := 0) rfl ?_)
  refine a_nil ⟨rfl, rfl, ?_⟩
  refine a_cons ?_
  refine e_mkvR ?_
  refine a_cons (e_var (i := 0) rfl ?_)
  refine a_nil ⟨rfl, rfl, ?_⟩
  refine a_cons ?_
  refine e_mkvR ?_
  refine a_cons (e_var (i := 0) rfl ?_)
  refine a_nil ⟨rfl, rfl, ?_⟩
  refine a_nil ⟨sz rfl, ?_⟩
  refine g_name ?_
  refine x_seq ?_
  refine x_asg ?_
  refine e_op (e_var rfl ?_)
  refine e_lst ?_
  refine a_cons ?_
  refine e_mkvR ?_
  refine a_cons (e_var (i := 0) rfl ?_)
  refine a_nil ⟨rfl, rfl, ?_⟩
  refine a_cons ?_
  refine e_mkvR ?_
  refine a_cons (e_var (i := 0) rfl ?_)
  refine a_nil ⟨rfl, rfl, ?_⟩
  refine a_cons ?_
  refine e_mkvR ?_
  refine a_cons (e_var (i := 0) rfl ?_)
  refine a_nil ⟨rfl, rfl, ?_⟩
  refine a_nil ⟨sz rfl, ?_⟩
  refine o_cat ⟨_, _, rfl, rfl, sz rfl, g_name ?_⟩
  refine x_seq ?_
  refine x_asg ?_
  refine e_op (e_var rfl ?_)
  refine e_lst ?_
  refine a_cons ?_
  refine e_mkvR ?_
  refine a_cons (e_var (i := 0) rfl ?_)
  refine a_nil ⟨rfl, rfl, ?_⟩
  refine a_cons ?_
  refine e_mkvR ?_
  refine a_cons (e_var (i := 0) rfl ?_)
  refine a_nil ⟨rfl, rfl, ?_⟩
  refine a_cons ?_
  refine e_mkvR ?_
  refine a_cons (e_var (i := 0) rfl ?_)
  refine a_nil ⟨rfl, rfl, ?_⟩
  refine a_nil ⟨sz rfl, ?_⟩
  refine o_cat ⟨_, _, rfl, rfl, sz rfl, g_name ?_⟩
  refine x_seq ?_
  refine x_asg ?_
  refine e_op (e_var rfl ?_)
  refine e_lst ?_
  refine a_cons ?_
  refine e_mkvR ?_
  refine a_cons (e_var (i := 0) rfl ?_)
  refine a_nil ⟨rfl, rfl, ?_⟩
  refine a_cons ?_
  refine e_mkvR ?_
  refine a_cons (e_var (i := 0) rfl ?_)
  refine a_nil ⟨rfl, rfl, ?_⟩
  refine a_cons ?_
  refine e_mkvR ?_
  refine a_cons (e_var (i := 0) rfl ?_)
  refine a_nil ⟨rfl, rfl, ?_⟩
  refine a_nil ⟨sz rfl, ?_⟩
  refine o_cat ⟨_, _, rfl, rfl, sz rfl, g_name ?_⟩
  refine x_seq ?_
  refine x_asg ?_
  refine e_op (e_var rfl ?_)
  refine e_lst ?_
  refine a_cons ?_
  refine e_mkvR ?_
  refine a_cons (e_var (i := 0) rfl ?_)
  refine a_nil ⟨rfl, rfl, ?_⟩
  refine a_cons ?_
  refine e_mkvR ?_
  refine a_cons (e_var (i := 0) rfl ?_)
  refine a_nil ⟨rfl, rfl, ?_⟩
  refine a_cons ?_
  refine e_mkvR ?_
  refine a_cons (e_var (i := 0) rfl ?_)
  refine a_nil ⟨rfl, rfl, ?_⟩
  refine a_nil ⟨sz rfl, ?_⟩
  refine o_cat ⟨_, _, rfl, rfl, sz rfl, g_name ?_⟩
  refine x_seq ?_
  refine x_asg ?_
  refine e_op (e_var rfl ?_)
  refine e_lst ?_
  refine a_cons ?_
  refine e_mkvR ?_
  refine a_cons (e_var (i := 0) rfl ?_)
  refine a_nil ⟨rfl, rfl, ?_⟩
  refine a_cons ?_
  refine e_mkvR ?_
  refine a_cons (e_var (i := 0) rfl ?_)
  refine a_nil ⟨rfl, rfl, ?_⟩
  refine a_nil ⟨sz rfl, ?_⟩
  refine o_cat ⟨_, _, rfl, rfl, sz rfl, g_name ?_⟩
  refine x_seq ?_
  refine x_asg ?_
  refine e_lst ?_
  refine a_cons ?_
  refine e_mkvR ?_
  refine a_cons (e_var (i := 0) rfl ?_)
  refine a_nil ⟨rfl, rfl, ?_⟩
  refine a_cons ?_
  refine e_mkvR ?_
  refine a_cons (e_var (i := 0) rfl ?_)
  refine a_nil ⟨rfl, rfl, ?_⟩
  refine a_cons ?_
  refine e_mkvR ?_
  refine a_cons (e_var (i := 0) rfl ?_)
  refine a_nil ⟨rfl, rfl, ?_⟩
  refine a_nil ⟨sz rfl, ?_⟩
  refine g_name ?_
  refine x_seq ?_
  refine x_asg ?_
  refine e_op (e_var rfl ?_)
  refine e_lst ?_
  refine a_cons ?_
  refine e_mkvR ?_
  refine a_cons (e_var (i := 0) rfl ?_)
  refine a_nil ⟨rfl, rfl, ?_⟩
  refine a_cons ?_
  refine e_mkvR ?_
  refine a_cons (e_var (i := 0) rfl ?_)
  refine a_nil ⟨rfl, rfl, ?_⟩
  refine a_cons ?_
  refine e_mkvR ?_
  refine a_cons (e_var (i := 0) rfl ?_)
  refine a_nil ⟨rfl, rfl, ?_⟩
  refine a_nil ⟨sz rfl, ?_⟩
  refine o_cat ⟨_, _, rfl, rfl, sz rfl, g_name ?_⟩
  refine x_seq ?_
  refine x_ownN (Nat.le_of_ble_eq_true rfl) ?_
  refine n_cat (e_var rfl ?_)
  refine e_lst ?_
  refine a_cons ?_
  refine e_mkvR ?_
  refine a_cons (e_var (i := 0) rfl ?_)
  refine a_nil ⟨rfl, rfl, ?_⟩
  refine a_cons ?_
  refine e_mkvR ?_
  refine a_cons (e_var (i := 0) rfl ?_)
  refine a_nil ⟨rfl, rfl, ?_⟩
  refine a_cons ?_
  refine e_mkvR ?_
  refine a_cons (e_var (i := 0) rfl ?_)
  refine a_nil ⟨rfl, rfl, ?_⟩
  refine a_nil ⟨sz rfl, ?_⟩
  refine ⟨_, _, rfl, rfl, sz rfl, ?_⟩
  refine x_seq ?_
  refine x_append rfl (Nat.lt_of_le_of_lt (Nat.le_of_ble_eq_true rfl : _ ≤ 1000) (by rw [sizeLine_eq]; decide)) ?_
  refine e_mkvR ?_
  refine a_cons (e_var (i := 0) rfl ?_)
  refine a_nil ⟨rfl, rfl, ?_⟩
  refine x_seq ?_
  refine x_if ?_
  refine t_or ?_
  refine t_test ?_
  refine e_op ?_
  refine e_cb ?_
  refine a_cons ?_
  refine e_lcF (v := v) rfl ?_
  refine e_var rfl ⟨_, 18, rfl, rfl, by decide, (And.intro (hasF_of T.c0 (by simp) rfl) (And.intro (hasF_of T.c1 (by simp) rfl) (And.intro (hasF_of T.c2 (by simp) rfl) (And.intro (hasF_of T.c3 (by simp) rfl) (And.intro (hasF_of T.c4 (by simp) rfl) (And.intro (hasF_of T.c5 (by simp) rfl) (And.intro (hasF_of T.c6 (by simp) rfl) (And.intro (hasF_of T.c7 (by simp) rfl) (And.intro (hasF_of T.c8 (by simp) rfl) (And.intro (hasF_of T.c9 (by simp) rfl) (And.intro (hasF_of T.c10 (by simp) rfl) (And.intro (hasF_of T.c11 (by simp) rfl) (And.intro (hasF_of T.c12 (by simp) rfl) (And.intro (hasF_of T.c13 (by simp) rfl) (And.intro (hasF_of T.c14 (by simp) rfl) (And.intro (hasF_of T.c25 (by simp) rfl) (And.intro (hasF_of T.c26 (by simp) rfl) (And.intro (hasF_of T.c27 (by simp) rfl) trivial)))))))))))))))))), ?_⟩
  refine a_nil (o_reprL (small_rep hv) (by simp) ?_)
  refine e_cb ?_
  refine a_cons ?_
  refine e_op (e_lst (a_cons (e_var rfl (a_nil ⟨sz rfl, ?_⟩))))
  refine e_int (o_rep1 ⟨v, 18, rfl, rfl, by decide, ?_⟩)
  refine a_nil (o_reprL (small_rep hv) (by simp) ?_)
  refine o_neS ⟨_, rfl, iteN rfl ?_⟩
  refine t_test ?_
  refine e_op ?_
  refine e_cb ?_
  refine a_cons ?_
  refine e_lcF (v := v) rfl ?_
  refine e_var rfl ⟨_, 10, rfl, rfl, by decide, (And.intro (hasF_of T.c15 (by simp) rfl) (And.intro (hasF_of T.c16 (by simp) rfl) (And.intro (hasF_of T.c17 (by simp) rfl) (And.intro (hasF_of T.c18 (by simp) rfl) (And.intro (hasF_of T.c19 (by simp) rfl) (And.intro (hasF_of T.c20 (by simp) rfl) (And.intro (hasF_of T.c21 (by simp) rfl) (And.intro (hasF_of T.c22 (by simp) rfl) (And.intro (hasF_of T.c23 (by simp) rfl) (And.intro (hasF_of T.c30 (by simp) rfl) trivial)))))))))), ?_⟩
  refine a_nil (o_reprL (small_rep hv) (by simp) ?_)
  refine e_cb ?_
  refine a_cons ?_
  refine e_op (e_lst (a_cons (e_var rfl (a_nil ⟨sz rfl, ?_⟩))))
  refine e_int (o_rep1 ⟨v, 10, rfl, rfl, by decide, ?_⟩)
  refine a_nil (o_reprL (small_rep hv) (by simp) ?_)
  refine o_neS ⟨_, rfl, iteN rfl ?_⟩
  refine x_next ?_
  refine x_seq ?_
  refine x_par ?_
  refine a_cons ?_
  refine e_mkvR ?_
  refine a_cons (e_var (i := 1) rfl ?_)
  refine a_cons (e_var (i := 0) rfl ?_)
  refine a_nil ⟨rfl, rfl, ?_⟩
  refine a_cons ?_
  refine e_mkvR ?_
  refine a_cons (e_var (i := 1) rfl ?_)
  refine a_cons (e_var (i := 0) rfl ?_)
  refine a_nil ⟨rfl, rfl, ?_⟩
  refine a_nil ⟨_, _, rfl, ?_⟩
  refine x_seq ?_
  refine x_asg ?_
  refine e_lst ?_
  refine a_cons ?_
  refine e_xflF (v := v) ?_
  refine e_mkvR ?_
  refine a_cons (e_var (i := 0) rfl ?_)
  refine a_nil ⟨rfl, rfl, hasF_of T.c24 (by simp) rfl, ?_⟩
  refine a_cons ?_
  refine e_xflF (v := v) (e_var rfl ⟨hasF_of T.c29 (by simp) rfl, ?_⟩)
  refine a_cons ?_
  refine e_xflF (v := u) (e_var rfl ⟨hasF_of T.c29 (by simp) rfl, ?_⟩)
  refine a_cons ?_
  refine e_xflF (v := v) (e_var rfl ⟨hasF_of T.c31 (by simp) rfl, ?_⟩)
  refine a_cons ?_
  refine e_xflF (v := u) (e_var rfl ⟨hasF_of T.c31 (by simp) rfl, ?_⟩)
  refine a_nil ⟨sz rfl, g_name ?_⟩
  have sm : ∀ d ∈ [v, v, u, v, u], Small d := fun d hd => by
    simp only [List.mem_cons, List.not_mem_nil, or_false] at hd
    rcases hd with rfl | rfl | rfl | rfl | rfl <;> assumption
  refine x_ret ?_
  refine e_op ?_
  refine e_cb (a_cons (e_var rfl (a_nil (o_reprL sm (by simp) ?_))))
  refine e_cb ?_
  refine a_cons ?_
  refine e_lst (a_cons (e_var rfl (a_cons (e_var rfl (a_cons (e_var rfl (a_cons (e_var rfl (a_cons (e_var rfl (a_nil ⟨sz rfl, ?_⟩)))))))))))
  refine a_nil (o_reprL sm (by simp) ?_)
  exact o_eqS (congrArg D.bl (decide_eq_true rfl))
abbrev N_law_right : List Str := ["_law_pot_here", "_law_turn", "_law_some", "_law_more"]
theorem sc_law_right : FnScope N_law_right ["_law_pot_here"] (defScope s_law_right) := ⟨rfl, rfl, rfl, by decide +kernel, rfl, by decide +kernel, by decide +kernel⟩
theorem ok_law_right (T : Txt P w K mg base ws cs) {f : Addr} {fd : FuncData} (Dd : Df K mg "_law_right" s_law_right ["_law_pot_here"] f fd) : FnG P w K mg base CX0 5 f fd ["_law_pot_here"] (spD 1 (fun ds => ds = [.pot]) fun _ d => d = .bl true) := by
  obtain ⟨f6, fd6, D6⟩ := T.d_law_thing
  obtain ⟨f7, fd7, D7⟩ := T.d_law_classes_right
  obtain ⟨f8, fd8, D8⟩ := T.d_law_fields_right
  obtain ⟨f9, fd9, D9⟩ := T.d_law_named_right
  refine okDG Dd.F sc_law_right rfl (fun cdv A outer s H E hgd hr => ?_)
  have nd := sc_law_right.nd
  refine ⟨_, (pss_cons (ps_for PassesOwn.never rfl (pi_range1 rfl T.n_range (pa_cons pe_int pa_nil)) (pg_name (i := 1) nd rfl (Or.inl rfl)) (pss_cons (ps_par (i := 2) (j := 3) rfl nd rfl rfl (by decide) rfl rfl (pa_cons (pe_call (ok_law_thing T D6) (hr.mono (by decide)) rfl D6.m D6.F.kp D6.b .nil pass0 (pa_cons (pv 0) pa_nil)) (pa_cons (pe_call (ok_law_thing T D6) (hr.mono (by decide)) rfl D6.m D6.F.kp D6.b .nil pass0 (pa_cons (pv 0) pa_nil)) pa_nil)) (by rfl))
    (pss_cons (ps_if (PW.pt (pw_or (pt_not (pt_val (pe_call (ok_law_classes_right T D7) (hr.mono (by decide)) rfl D7.m D7.F.kp D7.b .nil pass0 (pa_cons (pv 2) (pa_cons (pv 3) pa_nil))))) (pw_or1 (pt_not (pt_val (pe_callG (ok_law_fields_right T D8) hgd (hr.mono (by decide)) rfl D8.m D8.F.kp D8.b .nil pass0 (pa_cons (pv 2) (pa_cons (pv 3) pa_nil)))))))) (pss_one (ps_ret pe_bl)) pss_nil)
    (pss_one (ps_if (pt_not (pt_val (pe_callG (ok_law_named_right T D9) hgd (hr.mono (by decide)) rfl D9.m D9.F.kp D9.b .nil pass0 (pa_cons (pv 2) (pa_cons (pv 3) pa_nil))))) (pss_one (ps_ret pe_bl)) pss_nil)))))
    (pss_one (ps_ret pe_bl))), fun z ds hl hp => ?_⟩
  obtain rfl := hp
  refine x_seq ?_
  refine x_for (i_rng1 (a_cons (e_int (a_nil ⟨3, rfl, by omega, by omega, fun i ρ => ∃ a b c, ρ = [.va .pot, a, b, c], ⟨_, _, _, rfl⟩, ?_, ?_⟩))))
  · rintro i _ hi ⟨a, b, c, rfl⟩
    refine g_name ?_
    refine x_seq ?_
    refine x_par ?_
    refine a_cons ?_
    refine e_call (a_cons (e_var rfl (a_nil ⟨rfl, rfl, fun v hv => ?_⟩)))
    refine a_cons ?_
    refine e_call (a_cons (e_var rfl (a_nil ⟨rfl, rfl, fun u hu => ?_⟩)))
    refine a_nil ⟨v, u, rfl, ?_⟩
    refine x_seq ?_
    refine x_if ?_
    refine t_or ?_
    refine t_not ?_
    refine t_B ?_
    refine e_call (a_cons (e_var rfl (a_cons (e_var rfl (a_nil ⟨rfl, trivial, ?_⟩)))))
    rintro _ rfl
    refine ⟨true, rfl, iteF ?_⟩
    refine t_not ?_
    refine t_B ?_
    refine e_call (a_cons (e_var rfl (a_cons (e_var rfl (a_nil ⟨rfl, ⟨v, u, rfl, hv, hu⟩, ?_⟩)))))
    rintro _ rfl
    refine ⟨true, rfl, iteF (x_next ?_)⟩
    refine x_if ?_
    refine t_not ?_
    refine t_B ?_
    refine e_call (a_cons (e_var rfl (a_cons (e_var rfl (a_nil ⟨rfl, ⟨v, u, rfl, hv, hu⟩, ?_⟩)))))
    rintro _ rfl
    exact ⟨true, rfl, iteF (x_next ⟨_, _, _, rfl⟩)⟩
  · rintro _ ⟨a, b, c, rfl⟩
    exact x_ret (e_bl rfl)
end
end K16

set_option Elab.async false
set_option linter.all false
set_option maxRecDepth 100000
set_option maxHeartbeats 4000000
namespace K16
open PySem PySem.Spec PyProof.Rows L2 PD
def spLaw (K : PySem.W.Frag) : Sp := fun vs H Q _ => ∃ (a : Addr) (ns : List Int), vs = [.ref a] ∧ SqL K H a (ns.map V.int) ∧ ∀ H', Q (.bl true) H'
/-- [right(pot(script, k)) for k in range(n)] -/
theorem lc_pots {K : PySem.W.Frag} {a D : Addr} {ns : List Int} {H1 : Hp} {Qd : Hp → Prop} {x : Option V} {n : Nat} (hn : n ≤ 4) (hS : SqL K H1 a (ns.map V.int)) (nD : H1 D = none) (hd : ∀ H', H' D = some (.lst (List.replicate n (V.bl true))) → Qd H') :
    ∃ W : Nat → Nat → Hp → Prop, (∃ m, W 0 m (upd H1 D (.lst []))) ∧ ∀ i m H, W i m H →
      ((Itr 0 n).stop i H ∧ Qd H) ∨ ((Itr 0 n).go i H ∧ ∃ Nx : Hp → Prop, (∀ H', Nx H' → ∃ m', m' < m ∧ W (i + 1) m' H') ∧ ∀ y H', (Itr 0 n).yld i H y H' → gName 1 y (wipe [some (.ref a), x] [1]) H' fun σ2 H2 => wipe σ2 [1] = wipe [some (.ref a), x] [1] ∧ tYes σ2 H2 fun b H3 =>
        if b = true then tCall (spD 1 (fun ds => ds = [.pot]) fun _ d => d = .bl true) [] E0 (tCons (tCall (spPot K) [] E0 (tCons (tVar 0) (tCons (tVar 1) tNil))) tNil) σ2 H3 fun y H4 => ∃ acc, H4 D = some (.lst acc) ∧ acc.length < sizeLine ∧ Nx (upd H4 D (.lst (acc ++ [y]))) else Nx H3) := by
  refine lc_range (fun i H => Ex H1 H ∧ H D = some (.lst (List.replicate i (V.bl true)))) ⟨Ex.new nD, upd_same⟩ ?_ fun H h => hd H h.2
  rintro i H hi ⟨ex, hD⟩
  refine ⟨rfl, ?_⟩
  unfold tYes
  refine iteT ?_
  have sq : SqL K H a (ns.map V.int) := Same.seq ex hS
  refine ⟨_, rfl, _, rfl, a, 0 + (i : Int), ns, rfl, by omega, by omega, sq, fun p u y hp u0 y0 y1 => ?_⟩
  have nDp : D ≠ p := fun e => by rw [e, hp] at hD; cases hD
  refine ⟨some p, fun _ => False, [.pot], rfl, rfl, ⟨fun b hb => ?_, fun b hb => hb.elim⟩, .cons (.pot rfl) .nil, fun v H' d e2 ok r pd => ?_⟩
  · cases hb
    exact ⟨u, y, upd_same, u0, y0, y1⟩
  · subst pd
    cases r
    have hD' : H' D = some (.lst (List.replicate i (V.bl true))) := e2 D _ (fun e => nDp (Option.some.inj e).symm) (by rw [upd_ne nDp]; exact hD)
    refine ⟨_, hD', ?_, fun b o hb => ?_, ?_⟩
    · rw [List.length_replicate, sizeLine_eq]
      omega
    · have hb1 := ex b o hb
      have nb : b ≠ p := ne_of_none hb1 hp
      rw [upd_ne (ne_of_none hb nD)]
      exact e2 b o (fun e => nb (Option.some.inj e).symm) (by rw [upd_ne nb]; exact hb1)
    · rw [upd_same, List.replicate_succ']
section
variable {P : Program} {w : World} {K : PySem.W.Frag} {mg : Str → Option Value} {base : Heap} {ws cs : Nat → Addr}
abbrev Nlaw : List Str := ["_law_script", "_law_k"]
theorem sclaw : FnScope Nlaw ["_law_script"] (defScope slaw) := ⟨rfl, rfl, rfl, by decide +kernel, rfl, by decide +kernel, by decide +kernel⟩
theorem ok_law (T : Txt P w K mg base ws cs) {f : Addr} {fd : FuncData} (Dd : Df K mg "law" slaw ["_law_script"] f fd) : FnG P w K mg base CX0 6 f fd ["_law_script"] (spLaw K) := by
  obtain ⟨f10, fd10, D10⟩ := T.d_law_right
  obtain ⟨f11, fd11, D11⟩ := T.d_law_pot
  refine okG Dd.F sclaw (fun vs H Q E q => by obtain ⟨a, ns, rfl, _⟩ := q; rfl) (fun cdv A outer s H vs Q E hgd hr h => ?_)
  have nd := sclaw.nd
  obtain ⟨a, ns, rfl, hS, q⟩ := h
  refine ⟨_, (pss_one (ps_ret (pe_callB (cr_all rfl) rfl T.n_all boot_all (pa_cons (pe_lc (own := [("_law_k", 1)]) (g := gName 1) (tt := tYes) rfl nd (pi_range1 rfl T.n_range (pa_cons (pe_callB (call_max2 rfl) rfl T.n_max boot_max (pa_cons pe_int (pa_cons (pe_callB (call_min2 rfl) rfl T.n_min boot_min (pa_cons (pe_callB call_len rfl T.n_len boot_len (pa_cons (pv 0) pa_nil)) (pa_cons pe_int pa_nil))) pa_nil))) pa_nil)) (blkOk_by (N := Nlaw) (sc := defScope slaw) (by decide +kernel)) (fun _ _ _ _ _ => pg_name (i := 1) nd rfl (Or.inl rfl)) (fun _ _ _ _ _ => pts_nil) (fun _ _ _ _ _ => (pe_callG (ok_law_right T D10) hgd (hr.mono (by decide)) rfl D10.m D10.F.kp D10.b .nil pass0 (pa_cons (pe_call (ok_law_pot T D11) (hr.mono (by decide)) rfl D11.m D11.F.kp D11.b .nil pass0 (pa_cons (pv 0) (pa_cons (pv 1) pa_nil))) pa_nil)))) pa_nil)))), ?_⟩
  refine ⟨_, rfl, _, _, rfl, .inl ⟨_, hS, rfl⟩, _, _, rfl, _, _, rfl, _, rfl, ?_, ?_, fun Dl nD => ?_⟩
  · split <;> (try split) <;> omega
  · split <;> (try split) <;> omega
  refine lc_pots ?_ hS nD fun H' h' => ?_
  · split <;> (try split) <;> omega
  refine ⟨Dl, _, rfl, .inl (.inl (h'.trans (by rw [← List.map_replicate (f := V.bl)]))), ?_⟩
  have e : ∀ n : Nat, (List.replicate n true).all id = true := fun n => by
    rw [List.all_eq_true]
    intro b hb
    rw [(List.mem_replicate.mp hb).2]
    rfl
  rw [e]
  exact q _
end
end K16

set_option Elab.async false
set_option linter.all false
set_option maxRecDepth 100000
set_option maxHeartbeats 4000000
namespace K16
open PySem PySem.Spec PyProof.Rows L2 PD
/-- what the written part says of a base, a class, a def -/
structure BsH (K : PySem.W.Frag) (nm : Str) (initId : String) (W : Addr) : Prop where
  g : PySem.W.nsIn K mainGlobals nm = some (some (.ref W))
  rd : PySem.W.readsIn K W (.type "type") = true
  fc : PySem.W.findCls K (.ref W) (.type "type") "__init__" = some (.val (.builtin initId))
  ga : PySem.W.specialIn K (.ref W) "__getattribute__" = some (some (.builtin "type.__getattribute__"))
structure CfH (K : PySem.W.Frag) (nm qual : Str) (st : Stmt) (newId : String) (bm : List Value) (fs : List Str) (C : Addr) : Prop where
  g : PySem.W.nsIn K mainGlobals nm = some (some (.ref C))
  ox : clsB K newId bm fs C = true
  ini : ∃ (fI : Addr) (oc : Value) (od : Option Addr) (kV doc pm : Value) (an : Option Addr) (cdv ct : Value) (osl : Array (Option Value)), PySem.W.findIn K (.ref C) "__init__" = some (some (.ref fI)) ∧ PySem.W.typeIn K (.ref fI) = some (.type "function") ∧
    K.lookup fI = some ⟨oc, od, .func (PySem.W.fnOf "__init__" qual (defArgs st) (defBody st) (defScope st) .none kV doc pm an cdv ct), osl⟩ ∧ PySem.W.codeIn K cdv qual = true ∧ PySem.W.keepIn K (.ref fI) = true
structure DfH (K : PySem.W.Frag) (x : Str) (st : Stmt) : Prop where
  ex : ∃ (f : Addr) (oc : Value) (od : Option Addr) (kV doc pm : Value) (an : Option Addr) (cdv ct : Value) (osl : Array (Option Value)), PySem.W.nsIn K mainGlobals x = some (some (.ref f)) ∧
    K.lookup f = some ⟨oc, od, .func (PySem.W.fnOf x x (defArgs st) (defBody st) (defScope st) .none kV doc pm an cdv ct), osl⟩ ∧ PySem.W.codeIn K cdv x = true ∧ PySem.W.keepIn K (.ref f) = true
def kcB (K : PySem.W.Frag) (L : List Addr) : Bool := (List.range 32).all fun i => (List.range 32).all fun j => decide (PySem.W.kitOne K (.ref (L.getD i 0)) (.ref (L.getD j 0)) = some (decide (i = j)))
def kbB (K : PySem.W.Frag) (ws L : List Addr) : Bool := (List.range 32).all fun i => (List.range 15).all fun t => decide (PySem.W.kitOne K (.ref (L.getD i 0)) (bu (fun m => ws.getD m 0) t) = some (decide (t = bas i ∨ t = bas i + 4)))
theorem cfh {K : PySem.W.Frag} {nm qual : Str} {st : Stmt} {newId : String} {bm : List Value} {fs : List Str} {C fI : Addr} {oc : Value} {od : Option Addr} {kV doc pm : Value} {an : Option Addr} {cdv ct : Value} {osl : Array (Option Value)}
    (g : PySem.W.nsIn K mainGlobals nm = some (some (.ref C))) (ox : clsB K newId bm fs C = true) (a1 : PySem.W.findIn K (.ref C) "__init__" = some (some (.ref fI))) (t1 : PySem.W.typeIn K (.ref fI) = some (.type "function"))
    (l1 : K.lookup fI = some ⟨oc, od, .func (PySem.W.fnOf "__init__" qual (defArgs st) (defBody st) (defScope st) .none kV doc pm an cdv ct), osl⟩) (c1 : PySem.W.codeIn K cdv qual = true) (k1 : PySem.W.keepIn K (.ref fI) = true) : CfH K nm qual st newId bm fs C :=
  ⟨g, ox, fI, oc, od, kV, doc, pm, an, cdv, ct, osl, a1, t1, l1, c1, k1⟩
theorem dfh {K : PySem.W.Frag} {x : Str} {st : Stmt} {f : Addr} {oc : Value} {od : Option Addr} {kV doc pm : Value} {an : Option Addr} {cdv ct : Value} {osl : Array (Option Value)}
    (g : PySem.W.nsIn K mainGlobals x = some (some (.ref f))) (l : K.lookup f = some ⟨oc, od, .func (PySem.W.fnOf x x (defArgs st) (defBody st) (defScope st) .none kV doc pm an cdv ct), osl⟩) (c : PySem.W.codeIn K cdv x = true) (k : PySem.W.keepIn K (.ref f) = true) : DfH K x st :=
  ⟨f, oc, od, kV, doc, pm, an, cdv, ct, osl, g, l, c, k⟩
section
variable {K : PySem.W.Frag} {h : Heap} {mg : Str → Option Value}
theorem BsH.to (KX : K.In h) (G : h.Ns mainGlobals mg) {nm : Str} {initId : String} {W : Addr} (b : BsH K nm initId W) : Bs K mg nm initId W := ⟨PySem.W.mg_of KX G b.g, ⟨_, b.rd, b.fc⟩, b.ga⟩
theorem CfH.to (KX : K.In h) (G : h.Ns mainGlobals mg) {nm qual : Str} {st : Stmt} {newId : String} {bm : List Value} {fs : List Str} {C : Addr} (c : CfH K nm qual st newId bm fs C) : Cf K mg nm qual st newId bm fs C := by
  obtain ⟨fI, oc, od, kV, doc, pm, an, cdv, ct, osl, a1, t1, l1, c1, k1⟩ := c.ini
  exact cf_mk KX G c.g c.ox a1 t1 l1 c1 k1
theorem DfH.to (KX : K.In h) (G : h.Ns mainGlobals mg) {x : Str} {st : Stmt} {ps : List Str} (d : DfH K x st)
    (hb : ∀ (kV doc pm : Value) (an : Option Addr) (cdv ct : Value) (us : List Value), us.length = ps.length → bindArgs (PySem.W.fnOf x x (defArgs st) (defBody st) (defScope st) .none kV doc pm an cdv ct) ⟨us, []⟩ = pure (ps.zip us)) : ∃ f fd, Df K mg x st ps f fd := by
  obtain ⟨f, oc, od, kV, doc, pm, an, cdv, ct, osl, g, l, c, k⟩ := d.ex
  have F := fun_mk (st := st) l c k
  exact ⟨f, _, F, PySem.W.mg_of KX G g, F.binds hb⟩
end
theorem all_mk {P : Program} {w : World} {K : PySem.W.Frag} {h : Heap} {mg : Str → Option Value} {fa : Addr} {C0 C1 C2 C3 C4 C5 C6 C7 C8 C9 C10 C11 C12 C13 C14 C15 C16 C17 C18 C19 C20 C21 C22 C23 C24 C25 C26 C27 C28 C29 C30 C31 W0 W1 W2 W3 : Addr} (KX : K.In h) (G : h.Ns mainGlobals mg) (hfa : mg "law" = some (.ref fa))
    (hw0 : BsH K "WakeError" "ValueError.__init__" W0)
    (hw1 : BsH K "MissingError" "LookupError.__init__" W1)
    (hw2 : BsH K "StateError" "RuntimeError.__init__" W2)
    (hw3 : BsH K "LimitError" "ArithmeticError.__init__" W3)
    (hc0 : CfH K "InvalidLetter" "InvalidLetter.__init__" iInvalidLetter "ValueError.__new__" (tailOf "ValueError") ["value"] C0)
    (hc1 : CfH K "InvalidWord" "InvalidWord.__init__" iInvalidWord "ValueError.__new__" (tailOf "ValueError") ["value"] C1)
    (hc2 : CfH K "InvalidNumber" "InvalidNumber.__init__" iInvalidNumber "ValueError.__new__" (tailOf "ValueError") ["value"] C2)
    (hc3 : CfH K "InvalidFront" "InvalidFront.__init__" iInvalidFront "ValueError.__new__" (tailOf "ValueError") ["value"] C3)
    (hc4 : CfH K "InvalidSaying" "InvalidSaying.__init__" iInvalidSaying "ValueError.__new__" (tailOf "ValueError") ["value"] C4)
    (hc5 : CfH K "InvalidBook" "InvalidBook.__init__" iInvalidBook "ValueError.__new__" (tailOf "ValueError") ["value"] C5)
    (hc6 : CfH K "InvalidTerm" "InvalidTerm.__init__" iInvalidTerm "ValueError.__new__" (tailOf "ValueError") ["value"] C6)
    (hc7 : CfH K "InvalidWeb" "InvalidWeb.__init__" iInvalidWeb "ValueError.__new__" (tailOf "ValueError") ["value"] C7)
    (hc8 : CfH K "InvalidMaker" "InvalidMaker.__init__" iInvalidMaker "ValueError.__new__" (tailOf "ValueError") ["value"] C8)
    (hc9 : CfH K "InvalidChoice" "InvalidChoice.__init__" iInvalidChoice "ValueError.__new__" (tailOf "ValueError") ["value"] C9)
    (hc10 : CfH K "InvalidWish" "InvalidWish.__init__" iInvalidWish "ValueError.__new__" (tailOf "ValueError") ["value"] C10)
    (hc11 : CfH K "InvalidClaim" "InvalidClaim.__init__" iInvalidClaim "ValueError.__new__" (tailOf "ValueError") ["value"] C11)
    (hc12 : CfH K "InvalidName" "InvalidName.__init__" iInvalidName "ValueError.__new__" (tailOf "ValueError") ["value"] C12)
    (hc13 : CfH K "InvalidEntry" "InvalidEntry.__init__" iInvalidEntry "ValueError.__new__" (tailOf "ValueError") ["value"] C13)
    (hc14 : CfH K "InvalidCommand" "InvalidCommand.__init__" iInvalidCommand "ValueError.__new__" (tailOf "ValueError") ["value"] C14)
    (hc15 : CfH K "InvalidWords" "InvalidWords.__init__" iInvalidWords "ValueError.__new__" (tailOf "ValueError") ["position"] C15)
    (hc16 : CfH K "InvalidTriggers" "InvalidTriggers.__init__" iInvalidTriggers "ValueError.__new__" (tailOf "ValueError") ["position"] C16)
    (hc17 : CfH K "InvalidMakes" "InvalidMakes.__init__" iInvalidMakes "ValueError.__new__" (tailOf "ValueError") ["position"] C17)
    (hc18 : CfH K "InvalidSayings" "InvalidSayings.__init__" iInvalidSayings "ValueError.__new__" (tailOf "ValueError") ["position"] C18)
    (hc19 : CfH K "InvalidThings" "InvalidThings.__init__" iInvalidThings "ValueError.__new__" (tailOf "ValueError") ["position"] C19)
    (hc20 : CfH K "InvalidTerms" "InvalidTerms.__init__" iInvalidTerms "ValueError.__new__" (tailOf "ValueError") ["position"] C20)
    (hc21 : CfH K "InvalidPairs" "InvalidPairs.__init__" iInvalidPairs "ValueError.__new__" (tailOf "ValueError") ["position"] C21)
    (hc22 : CfH K "InvalidInstances" "InvalidInstances.__init__" iInvalidInstances "ValueError.__new__" (tailOf "ValueError") ["position"] C22)
    (hc23 : CfH K "InvalidOffers" "InvalidOffers.__init__" iInvalidOffers "ValueError.__new__" (tailOf "ValueError") ["position"] C23)
    (hc24 : CfH K "InvalidText" "InvalidText.__init__" iInvalidText "ValueError.__new__" (tailOf "ValueError") ["line"] C24)
    (hc25 : CfH K "UnknownLetter" "UnknownLetter.__init__" iUnknownLetter "LookupError.__new__" (tailOf "LookupError") ["value"] C25)
    (hc26 : CfH K "UnknownTerm" "UnknownTerm.__init__" iUnknownTerm "LookupError.__new__" (tailOf "LookupError") ["value"] C26)
    (hc27 : CfH K "UnknownName" "UnknownName.__init__" iUnknownName "LookupError.__new__" (tailOf "LookupError") ["value"] C27)
    (hc28 : CfH K "NothingToUndo" "NothingToUndo.__init__" iNothingToUndo "LookupError.__new__" (tailOf "LookupError") [] C28)
    (hc29 : CfH K "CantMake" "CantMake.__init__" iCantMake "RuntimeError.__new__" (tailOf "RuntimeError") ["number", "term"] C29)
    (hc30 : CfH K "CommandFailed" "CommandFailed.__init__" iCommandFailed "RuntimeError.__new__" (tailOf "RuntimeError") ["position"] C30)
    (hc31 : CfH K "TooMany" "TooMany.__init__" iTooMany "ArithmeticError.__new__" (tailOf "ArithmeticError") ["what", "limit"] C31)
    (hd_law_pot : DfH K "_law_pot" s_law_pot)
    (hd_law_draw : DfH K "_law_draw" s_law_draw)
    (hd_law_pick : DfH K "_law_pick" s_law_pick)
    (hd_law_thing : DfH K "_law_thing" s_law_thing)
    (hd_law_wakes : DfH K "_law_wakes" s_law_wakes)
    (hd_law_which_wake : DfH K "_law_which_wake" s_law_which_wake)
    (hd_law_rest : DfH K "_law_rest" s_law_rest)
    (hd_law_which_rest : DfH K "_law_which_rest" s_law_which_rest)
    (hd_law_bases : DfH K "_law_bases" s_law_bases)
    (hd_law_classes_right : DfH K "_law_classes_right" s_law_classes_right)
    (hd_law_fields_right : DfH K "_law_fields_right" s_law_fields_right)
    (hd_law_named_right : DfH K "_law_named_right" s_law_named_right)
    (hd_law_right : DfH K "_law_right" s_law_right)
    (hdlaw : DfH K "law" slaw)
    (hkc : kcB K [C0, C1, C2, C3, C4, C5, C6, C7, C8, C9, C10, C11, C12, C13, C14, C15, C16, C17, C18, C19, C20, C21, C22, C23, C24, C25, C26, C27, C28, C29, C30, C31] = true) (hkb : kbB K [W0, W1, W2, W3] [C0, C1, C2, C3, C4, C5, C6, C7, C8, C9, C10, C11, C12, C13, C14, C15, C16, C17, C18, C19, C20, C21, C22, C23, C24, C25, C26, C27, C28, C29, C30, C31] = true)
    (hn : (["len", "repr", "isinstance", "divmod", "abs", "max", "min", "int", "all", "range", "enumerate", "ValueError", "LookupError", "RuntimeError", "ArithmeticError", "TypeError", "KeyError", "IndexError", "OverflowError", "ZeroDivisionError", "NotImplementedError", "AttributeError"] : List Str).all (fun x => decide (PySem.W.nsIn K mainGlobals x = some none)) = true) :
    ∃ fd : FuncData, (∀ (s : Shared) (u : Value), BindsTo s fd ⟨[u], []⟩ [("_law_script", u)]) ∧ ∀ base : Heap, K.In base → base.Ns mainGlobals mg → FnG P w K mg base CX0 6 fa fd ["_law_script"] (spLaw K) := by
  have no : ∀ x : Str, x ∈ (["len", "repr", "isinstance", "divmod", "abs", "max", "min", "int", "all", "range", "enumerate", "ValueError", "LookupError", "RuntimeError", "ArithmeticError", "TypeError", "KeyError", "IndexError", "OverflowError", "ZeroDivisionError", "NotImplementedError", "AttributeError"] : List Str) → mg x = none := fun x hx => PySem.W.mg_none_of KX G (of_decide_eq_true (List.all_eq_true.mp hn x hx))
  have T : ∀ base : Heap, Txt P w K mg base (fun m => [W0, W1, W2, W3].getD m 0) (fun j => [C0, C1, C2, C3, C4, C5, C6, C7, C8, C9, C10, C11, C12, C13, C14, C15, C16, C17, C18, C19, C20, C21, C22, C23, C24, C25, C26, C27, C28, C29, C30, C31].getD j 0) := fun base => {
    c0 := clInvalidLetter (hw0.to KX G) (hc0.to KX G)
    c1 := clInvalidWord (hw0.to KX G) (hc1.to KX G)
    c2 := clInvalidNumber (hw0.to KX G) (hc2.to KX G)
    c3 := clInvalidFront (hw0.to KX G) (hc3.to KX G)
    c4 := clInvalidSaying (hw0.to KX G) (hc4.to KX G)
    c5 := clInvalidBook (hw0.to KX G) (hc5.to KX G)
    c6 := clInvalidTerm (hw0.to KX G) (hc6.to KX G)
    c7 := clInvalidWeb (hw0.to KX G) (hc7.to KX G)
    c8 := clInvalidMaker (hw0.to KX G) (hc8.to KX G)
    c9 := clInvalidChoice (hw0.to KX G) (hc9.to KX G)
    c10 := clInvalidWish (hw0.to KX G) (hc10.to KX G)
    c11 := clInvalidClaim (hw0.to KX G) (hc11.to KX G)
    c12 := clInvalidName (hw0.to KX G) (hc12.to KX G)
    c13 := clInvalidEntry (hw0.to KX G) (hc13.to KX G)
    c14 := clInvalidCommand (hw0.to KX G) (hc14.to KX G)
    c15 := clInvalidWords (hw0.to KX G) (hc15.to KX G)
    c16 := clInvalidTriggers (hw0.to KX G) (hc16.to KX G)
    c17 := clInvalidMakes (hw0.to KX G) (hc17.to KX G)
    c18 := clInvalidSayings (hw0.to KX G) (hc18.to KX G)
    c19 := clInvalidThings (hw0.to KX G) (hc19.to KX G)
    c20 := clInvalidTerms (hw0.to KX G) (hc20.to KX G)
    c21 := clInvalidPairs (hw0.to KX G) (hc21.to KX G)
    c22 := clInvalidInstances (hw0.to KX G) (hc22.to KX G)
    c23 := clInvalidOffers (hw0.to KX G) (hc23.to KX G)
    c24 := clInvalidText (hw0.to KX G) (hc24.to KX G)
    c25 := clUnknownLetter (hw1.to KX G) (hc25.to KX G)
    c26 := clUnknownTerm (hw1.to KX G) (hc26.to KX G)
    c27 := clUnknownName (hw1.to KX G) (hc27.to KX G)
    c28 := clNothingToUndo (hw1.to KX G) (hc28.to KX G)
    c29 := clCantMake (hw2.to KX G) (hc29.to KX G)
    c30 := clCommandFailed (hw2.to KX G) (hc30.to KX G)
    c31 := clTooMany (hw3.to KX G) (hc31.to KX G)
    w0 := PySem.W.mg_of KX G hw0.g
    w1 := PySem.W.mg_of KX G hw1.g
    w2 := PySem.W.mg_of KX G hw2.g
    w3 := PySem.W.mg_of KX G hw3.g
    kc := fun i j hi hj => of_decide_eq_true (List.all_eq_true.mp (List.all_eq_true.mp hkc i (List.mem_range.mpr hi)) j (List.mem_range.mpr hj))
    kb := fun i t hi ht => of_decide_eq_true (List.all_eq_true.mp (List.all_eq_true.mp hkb i (List.mem_range.mpr hi)) t (List.mem_range.mpr ht))
    n_len := no "len" (by simp)
    n_repr := no "repr" (by simp)
    n_isinstance := no "isinstance" (by simp)
    n_divmod := no "divmod" (by simp)
    n_abs := no "abs" (by simp)
    n_max := no "max" (by simp)
    n_min := no "min" (by simp)
    n_int := no "int" (by simp)
    n_all := no "all" (by simp)
    n_range := no "range" (by simp)
    n_enumerate := no "enumerate" (by simp)
    n_ValueError := no "ValueError" (by simp)
    n_LookupError := no "LookupError" (by simp)
    n_RuntimeError := no "RuntimeError" (by simp)
    n_ArithmeticError := no "ArithmeticError" (by simp)
    n_TypeError := no "TypeError" (by simp)
    n_KeyError := no "KeyError" (by simp)
    n_IndexError := no "IndexError" (by simp)
    n_OverflowError := no "OverflowError" (by simp)
    n_ZeroDivisionError := no "ZeroDivisionError" (by simp)
    n_NotImplementedError := no "NotImplementedError" (by simp)
    n_AttributeError := no "AttributeError" (by simp)
    d_law_pot := hd_law_pot.to KX G fun _ _ _ _ _ _ us hl => match us, hl with | [_, _], _ => rfl
    d_law_draw := hd_law_draw.to KX G fun _ _ _ _ _ _ us hl => match us, hl with | [_, _], _ => rfl
    d_law_pick := hd_law_pick.to KX G fun _ _ _ _ _ _ us hl => match us, hl with | [_, _], _ => rfl
    d_law_thing := hd_law_thing.to KX G fun _ _ _ _ _ _ us hl => match us, hl with | [_], _ => rfl
    d_law_wakes := hd_law_wakes.to KX G fun _ _ _ _ _ _ us hl => match us, hl with | [_], _ => rfl
    d_law_which_wake := hd_law_which_wake.to KX G fun _ _ _ _ _ _ us hl => match us, hl with | [_], _ => rfl
    d_law_rest := hd_law_rest.to KX G fun _ _ _ _ _ _ us hl => match us, hl with | [_, _], _ => rfl
    d_law_which_rest := hd_law_which_rest.to KX G fun _ _ _ _ _ _ us hl => match us, hl with | [_], _ => rfl
    d_law_bases := hd_law_bases.to KX G fun _ _ _ _ _ _ us hl => match us, hl with | [_], _ => rfl
    d_law_classes_right := hd_law_classes_right.to KX G fun _ _ _ _ _ _ us hl => match us, hl with | [_, _], _ => rfl
    d_law_fields_right := hd_law_fields_right.to KX G fun _ _ _ _ _ _ us hl => match us, hl with | [_, _], _ => rfl
    d_law_named_right := hd_law_named_right.to KX G fun _ _ _ _ _ _ us hl => match us, hl with | [_, _], _ => rfl
    d_law_right := hd_law_right.to KX G fun _ _ _ _ _ _ us hl => match us, hl with | [_], _ => rfl
    dlaw := hdlaw.to KX G fun _ _ _ _ _ _ us hl => match us, hl with | [_], _ => rfl
  }
  obtain ⟨f, oc, od, kV, doc, pm, an, cdv, ct, osl, g, l, c, k⟩ := hdlaw.ex
  have e := hfa.symm.trans (PySem.W.mg_of KX G g)
  cases e
  have F := fun_mk (st := slaw) l c k
  exact ⟨_, fun s u => .of_eq rfl, fun base _ _ => ok_law (T base) ⟨F, hfa, F.binds fun _ _ _ _ _ _ us hl => match us, hl with | [_], _ => rfl⟩⟩
end K16

set_option Elab.async false
set_option linter.all false
set_option maxRecDepth 100000
set_option maxHeartbeats 4000000
namespace K16
open PySem PySem.Spec PyProof.Rows L2 PD
def fnOfI (c : Str) (q : Str) (st : Stmt) : He.FnD := ⟨(c, some "__init__"), "__init__", q, defArgs st, defBody st, defScope st⟩
def fnOfD (x : Str) (st : Stmt) : He.FnD := ⟨(x, none), x, x, defArgs st, defBody st, defScope st⟩
def fnL : List He.FnD := [fnOfI "InvalidLetter" "InvalidLetter.__init__" iInvalidLetter,
  fnOfI "InvalidWord" "InvalidWord.__init__" iInvalidWord,
  fnOfI "InvalidNumber" "InvalidNumber.__init__" iInvalidNumber,
  fnOfI "InvalidFront" "InvalidFront.__init__" iInvalidFront,
  fnOfI "InvalidSaying" "InvalidSaying.__init__" iInvalidSaying,
  fnOfI "InvalidBook" "InvalidBook.__init__" iInvalidBook,
  fnOfI "InvalidTerm" "InvalidTerm.__init__" iInvalidTerm,
  fnOfI "InvalidWeb" "InvalidWeb.__init__" iInvalidWeb,
  fnOfI "InvalidMaker" "InvalidMaker.__init__" iInvalidMaker,
  fnOfI "InvalidChoice" "InvalidChoice.__init__" iInvalidChoice,
  fnOfI "InvalidWish" "InvalidWish.__init__" iInvalidWish,
  fnOfI "InvalidClaim" "InvalidClaim.__init__" iInvalidClaim,
  fnOfI "InvalidName" "InvalidName.__init__" iInvalidName,
  fnOfI "InvalidEntry" "InvalidEntry.__init__" iInvalidEntry,
  fnOfI "InvalidCommand" "InvalidCommand.__init__" iInvalidCommand,
  fnOfI "InvalidWords" "InvalidWords.__init__" iInvalidWords,
  fnOfI "InvalidTriggers" "InvalidTriggers.__init__" iInvalidTriggers,
  fnOfI "InvalidMakes" "InvalidMakes.__init__" iInvalidMakes,
  fnOfI "InvalidSayings" "InvalidSayings.__init__" iInvalidSayings,
  fnOfI "InvalidThings" "InvalidThings.__init__" iInvalidThings,
  fnOfI "InvalidTerms" "InvalidTerms.__init__" iInvalidTerms,
  fnOfI "InvalidPairs" "InvalidPairs.__init__" iInvalidPairs,
  fnOfI "InvalidInstances" "InvalidInstances.__init__" iInvalidInstances,
  fnOfI "InvalidOffers" "InvalidOffers.__init__" iInvalidOffers,
  fnOfI "InvalidText" "InvalidText.__init__" iInvalidText,
  fnOfI "UnknownLetter" "UnknownLetter.__init__" iUnknownLetter,
  fnOfI "UnknownTerm" "UnknownTerm.__init__" iUnknownTerm,
  fnOfI "UnknownName" "UnknownName.__init__" iUnknownName,
  fnOfI "NothingToUndo" "NothingToUndo.__init__" iNothingToUndo,
  fnOfI "CantMake" "CantMake.__init__" iCantMake,
  fnOfI "CommandFailed" "CommandFailed.__init__" iCommandFailed,
  fnOfI "TooMany" "TooMany.__init__" iTooMany,
  fnOfD "_law_pot" s_law_pot,
  fnOfD "_law_draw" s_law_draw,
  fnOfD "_law_pick" s_law_pick,
  fnOfD "_law_thing" s_law_thing,
  fnOfD "_law_wakes" s_law_wakes,
  fnOfD "_law_which_wake" s_law_which_wake,
  fnOfD "_law_rest" s_law_rest,
  fnOfD "_law_which_rest" s_law_which_rest,
  fnOfD "_law_bases" s_law_bases,
  fnOfD "_law_classes_right" s_law_classes_right,
  fnOfD "_law_fields_right" s_law_fields_right,
  fnOfD "_law_named_right" s_law_named_right,
  fnOfD "_law_right" s_law_right,
  fnOfD "law" slaw]
def bsB (K : PySem.W.Frag) (nm : Str) (initId : String) : Bool := decide (PySem.W.nsIn K mainGlobals nm = some (some (.ref (He.ga K nm)))) && PySem.W.readsIn K (He.ga K nm) (.type "type") && (match PySem.W.findCls K (.ref (He.ga K nm)) (.type "type") "__init__" with
  | some (.val (.builtin i)) => decide (i = initId)
  | _ => false) && decide (PySem.W.specialIn K (.ref (He.ga K nm)) "__getattribute__" = some (some (.builtin "type.__getattribute__")))
def cfB (K : PySem.W.Frag) (nm qual : Str) (newId : String) (bm : List Value) (fs : List Str) : Bool := decide (PySem.W.nsIn K mainGlobals nm = some (some (.ref (He.ga K nm)))) && clsB K newId bm fs (He.ga K nm) &&
  decide (PySem.W.findIn K (.ref (He.ga K nm)) "__init__" = some (some (.ref (He.ma K (He.ga K nm) "__init__")))) && decide (PySem.W.typeIn K (.ref (He.ma K (He.ga K nm) "__init__")) = some (.type "function")) && (He.Fa.code (nm, some "__init__") qual).ok K && PySem.W.keepIn K (.ref (He.ma K (He.ga K nm) "__init__"))
def dfB (K : PySem.W.Frag) (x : Str) : Bool := decide (PySem.W.nsIn K mainGlobals x = some (some (.ref (He.ga K x)))) && (He.Fa.code (x, none) x).ok K && PySem.W.keepIn K (.ref (He.ga K x))
theorem bsB_ok {K : PySem.W.Frag} {nm : Str} {initId : String} (h : bsB K nm initId = true) : BsH K nm initId (He.ga K nm) := by
  unfold bsB at h
  simp only [Bool.and_eq_true, decide_eq_true_eq] at h
  obtain ⟨⟨⟨h1, h2⟩, h3⟩, h4⟩ := h
  refine ⟨h1, h2, ?_, h4⟩
  split at h3
  · rename_i i e
    rw [e, of_decide_eq_true h3]
  · cases h3
theorem cfB_ok {K : PySem.W.Frag} {nm qual : Str} {st : Stmt} {newId : String} {bm : List Value} {fs : List Str} (h : cfB K nm qual newId bm fs = true) (e : He.fnObs K (nm, some "__init__") = (fnOfI nm qual st).val) : CfH K nm qual st newId bm fs (He.ga K nm) := by
  unfold cfB at h
  simp only [Bool.and_eq_true, decide_eq_true_eq] at h
  obtain ⟨⟨⟨⟨⟨h1, h2⟩, h3⟩, h4⟩, h5⟩, h6⟩ := h
  obtain ⟨oc, od, osl, kV, doc, pm, an, cdv, ct, l, c⟩ := He.fn_ok (d := fnOfI nm qual st) e h5
  exact cfh h1 h2 h3 h4 l c h6
theorem dfB_ok {K : PySem.W.Frag} {x : Str} {st : Stmt} (h : dfB K x = true) (e : He.fnObs K (x, none) = (fnOfD x st).val) : DfH K x st := by
  unfold dfB at h
  simp only [Bool.and_eq_true, decide_eq_true_eq] at h
  obtain ⟨⟨h1, h2⟩, h3⟩ := h
  obtain ⟨oc, od, osl, kV, doc, pm, an, cdv, ct, l, c⟩ := He.fn_ok (d := fnOfD x st) e h2
  exact dfh h1 l c h3
def facts (K : PySem.W.Frag) : List Bool := [bsB K "WakeError" "ValueError.__init__",
  bsB K "MissingError" "LookupError.__init__",
  bsB K "StateError" "RuntimeError.__init__",
  bsB K "LimitError" "ArithmeticError.__init__",
  cfB K "InvalidLetter" "InvalidLetter.__init__" "ValueError.__new__" (tailOf "ValueError") ["value"],
  cfB K "InvalidWord" "InvalidWord.__init__" "ValueError.__new__" (tailOf "ValueError") ["value"],
  cfB K "InvalidNumber" "InvalidNumber.__init__" "ValueError.__new__" (tailOf "ValueError") ["value"],
  cfB K "InvalidFront" "InvalidFront.__init__" "ValueError.__new__" (tailOf "ValueError") ["value"],
  cfB K "InvalidSaying" "InvalidSaying.__init__" "ValueError.__new__" (tailOf "ValueError") ["value"],
  cfB K "InvalidBook" "InvalidBook.__init__" "ValueError.__new__" (tailOf "ValueError") ["value"],
  cfB K "InvalidTerm" "InvalidTerm.__init__" "ValueError.__new__" (tailOf "ValueError") ["value"],
  cfB K "InvalidWeb" "InvalidWeb.__init__" "ValueError.__new__" (tailOf "ValueError") ["value"],
  cfB K "InvalidMaker" "InvalidMaker.__init__" "ValueError.__new__" (tailOf "ValueError") ["value"],
  cfB K "InvalidChoice" "InvalidChoice.__init__" "ValueError.__new__" (tailOf "ValueError") ["value"],
  cfB K "InvalidWish" "InvalidWish.__init__" "ValueError.__new__" (tailOf "ValueError") ["value"],
  cfB K "InvalidClaim" "InvalidClaim.__init__" "ValueError.__new__" (tailOf "ValueError") ["value"],
  cfB K "InvalidName" "InvalidName.__init__" "ValueError.__new__" (tailOf "ValueError") ["value"],
  cfB K "InvalidEntry" "InvalidEntry.__init__" "ValueError.__new__" (tailOf "ValueError") ["value"],
  cfB K "InvalidCommand" "InvalidCommand.__init__" "ValueError.__new__" (tailOf "ValueError") ["value"],
  cfB K "InvalidWords" "InvalidWords.__init__" "ValueError.__new__" (tailOf "ValueError") ["position"],
  cfB K "InvalidTriggers" "InvalidTriggers.__init__" "ValueError.__new__" (tailOf "ValueError") ["position"],
  cfB K "InvalidMakes" "InvalidMakes.__init__" "ValueError.__new__" (tailOf "ValueError") ["position"],
  cfB K "InvalidSayings" "InvalidSayings.__init__" "ValueError.__new__" (tailOf "ValueError") ["position"],
  cfB K "InvalidThings" "InvalidThings.__init__" "ValueError.__new__" (tailOf "ValueError") ["position"],
  cfB K "InvalidTerms" "InvalidTerms.__init__" "ValueError.__new__" (tailOf "ValueError") ["position"],
  cfB K "InvalidPairs" "InvalidPairs.__init__" "ValueError.__new__" (tailOf "ValueError") ["position"],
  cfB K "InvalidInstances" "InvalidInstances.__init__" "ValueError.__new__" (tailOf "ValueError") ["position"],
  cfB K "InvalidOffers" "InvalidOffers.__init__" "ValueError.__new__" (tailOf "ValueError") ["position"],
  cfB K "InvalidText" "InvalidText.__init__" "ValueError.__new__" (tailOf "ValueError") ["line"],
  cfB K "UnknownLetter" "UnknownLetter.__init__" "LookupError.__new__" (tailOf "LookupError") ["value"],
  cfB K "UnknownTerm" "UnknownTerm.__init__" "LookupError.__new__" (tailOf "LookupError") ["value"],
  cfB K "UnknownName" "UnknownName.__init__" "LookupError.__new__" (tailOf "LookupError") ["value"],
  cfB K "NothingToUndo" "NothingToUndo.__init__" "LookupError.__new__" (tailOf "LookupError") [],
  cfB K "CantMake" "CantMake.__init__" "RuntimeError.__new__" (tailOf "RuntimeError") ["number", "term"],
  cfB K "CommandFailed" "CommandFailed.__init__" "RuntimeError.__new__" (tailOf "RuntimeError") ["position"],
  cfB K "TooMany" "TooMany.__init__" "ArithmeticError.__new__" (tailOf "ArithmeticError") ["what", "limit"],
  dfB K "_law_pot",
  dfB K "_law_draw",
  dfB K "_law_pick",
  dfB K "_law_thing",
  dfB K "_law_wakes",
  dfB K "_law_which_wake",
  dfB K "_law_rest",
  dfB K "_law_which_rest",
  dfB K "_law_bases",
  dfB K "_law_classes_right",
  dfB K "_law_fields_right",
  dfB K "_law_named_right",
  dfB K "_law_right",
  dfB K "law",
  kcB K [He.ga K "InvalidLetter", He.ga K "InvalidWord", He.ga K "InvalidNumber", He.ga K "InvalidFront", He.ga K "InvalidSaying", He.ga K "InvalidBook", He.ga K "InvalidTerm", He.ga K "InvalidWeb", He.ga K "InvalidMaker", He.ga K "InvalidChoice", He.ga K "InvalidWish", He.ga K "InvalidClaim", He.ga K "InvalidName", He.ga K "InvalidEntry", He.ga K "InvalidCommand", He.ga K "InvalidWords", He.ga K "InvalidTriggers", He.ga K "InvalidMakes", He.ga K "InvalidSayings", He.ga K "InvalidThings", He.ga K "InvalidTerms", He.ga K "InvalidPairs", He.ga K "InvalidInstances", He.ga K "InvalidOffers", He.ga K "InvalidText", He.ga K "UnknownLetter", He.ga K "UnknownTerm", He.ga K "UnknownName", He.ga K "NothingToUndo", He.ga K "CantMake", He.ga K "CommandFailed", He.ga K "TooMany"],
  kbB K [He.ga K "WakeError", He.ga K "MissingError", He.ga K "StateError", He.ga K "LimitError"] [He.ga K "InvalidLetter", He.ga K "InvalidWord", He.ga K "InvalidNumber", He.ga K "InvalidFront", He.ga K "InvalidSaying", He.ga K "InvalidBook", He.ga K "InvalidTerm", He.ga K "InvalidWeb", He.ga K "InvalidMaker", He.ga K "InvalidChoice", He.ga K "InvalidWish", He.ga K "InvalidClaim", He.ga K "InvalidName", He.ga K "InvalidEntry", He.ga K "InvalidCommand", He.ga K "InvalidWords", He.ga K "InvalidTriggers", He.ga K "InvalidMakes", He.ga K "InvalidSayings", He.ga K "InvalidThings", He.ga K "InvalidTerms", He.ga K "InvalidPairs", He.ga K "InvalidInstances", He.ga K "InvalidOffers", He.ga K "InvalidText", He.ga K "UnknownLetter", He.ga K "UnknownTerm", He.ga K "UnknownName", He.ga K "NothingToUndo", He.ga K "CantMake", He.ga K "CommandFailed", He.ga K "TooMany"],
  (["len", "repr", "isinstance", "divmod", "abs", "max", "min", "int", "all", "range", "enumerate", "ValueError", "LookupError", "RuntimeError", "ArithmeticError", "TypeError", "KeyError", "IndexError", "OverflowError", "ZeroDivisionError", "NotImplementedError", "AttributeError"] : List Str).all (fun x => decide (PySem.W.nsIn K mainGlobals x = some none))]
def allB (K : PySem.W.Frag) : Bool := (facts K).all id
theorem fact {K : PySem.W.Frag} (h : allB K = true) (i : Nat) {b : Bool} (e : (facts K)[i]? = some b) : b = true := List.all_eq_true.mp h b (List.mem_of_getElem? e)
theorem told {P : Program} {w : World} {h : Heap} {mg : Str → Option Value} {fa : Addr} (G : h.Ns mainGlobals mg) (hfa : mg "law" = some (.ref fa)) {K : PySem.W.Frag} (KX : K.In h) (hb : allB K = true) (hf : fnL.map (fun d => He.fnObs K d.at_) = fnL.map He.FnD.val) :
    ∃ fd : FuncData, (∀ (s : Shared) (u : Value), BindsTo s fd ⟨[u], []⟩ [("_law_script", u)]) ∧ ∀ base : Heap, K.In base → base.Ns mainGlobals mg → FnG P w K mg base CX0 6 fa fd ["_law_script"] (spLaw K) :=
  all_mk KX G hfa (bsB_ok (fact hb 0 rfl)) (bsB_ok (fact hb 1 rfl)) (bsB_ok (fact hb 2 rfl)) (bsB_ok (fact hb 3 rfl))
    (cfB_ok (st := iInvalidLetter) (fact hb 4 rfl) (PH.fn_at hf 0 (d := fnOfI "InvalidLetter" "InvalidLetter.__init__" iInvalidLetter) rfl))
    (cfB_ok (st := iInvalidWord) (fact hb 5 rfl) (PH.fn_at hf 1 (d := fnOfI "InvalidWord" "InvalidWord.__init__" iInvalidWord) rfl))
    (cfB_ok (st := iInvalidNumber) (fact hb 6 rfl) (PH.fn_at hf 2 (d := fnOfI "InvalidNumber" "InvalidNumber.__init__" iInvalidNumber) rfl))
    (cfB_ok (st := iInvalidFront) (fact hb 7 rfl) (PH.fn_at hf 3 (d := fnOfI "InvalidFront" "InvalidFront.__init__" iInvalidFront) rfl))
    (cfB_ok (st := iInvalidSaying) (fact hb 8 rfl) (PH.fn_at hf 4 (d := fnOfI "InvalidSaying" "InvalidSaying.__init__" iInvalidSaying) rfl))
    (cfB_ok (st := iInvalidBook) (fact hb 9 rfl) (PH.fn_at hf 5 (d := fnOfI "InvalidBook" "InvalidBook.__init__" iInvalidBook) rfl))
    (cfB_ok (st := iInvalidTerm) (fact hb 10 rfl) (PH.fn_at hf 6 (d := fnOfI "InvalidTerm" "InvalidTerm.__init__" iInvalidTerm) rfl))
    (cfB_ok (st := iInvalidWeb) (fact hb 11 rfl) (PH.fn_at hf 7 (d := fnOfI "InvalidWeb" "InvalidWeb.__init__" iInvalidWeb) rfl))
    (cfB_ok (st := iInvalidMaker) (fact hb 12 rfl) (PH.fn_at hf 8 (d := fnOfI "InvalidMaker" "InvalidMaker.__init__" iInvalidMaker) rfl))
    (cfB_ok (st := iInvalidChoice) (fact hb 13 rfl) (PH.fn_at hf 9 (d := fnOfI "InvalidChoice" "InvalidChoice.__init__" iInvalidChoice) rfl))
    (cfB_ok (st := iInvalidWish) (fact hb 14 rfl) (PH.fn_at hf 10 (d := fnOfI "InvalidWish" "InvalidWish.__init__" iInvalidWish) rfl))
    (cfB_ok (st := iInvalidClaim) (fact hb 15 rfl) (PH.fn_at hf 11 (d := fnOfI "InvalidClaim" "InvalidClaim.__init__" iInvalidClaim) rfl))
    (cfB_ok (st := iInvalidName) (fact hb 16 rfl) (PH.fn_at hf 12 (d := fnOfI "InvalidName" "InvalidName.__init__" iInvalidName) rfl))
    (cfB_ok (st := iInvalidEntry) (fact hb 17 rfl) (PH.fn_at hf 13 (d := fnOfI "InvalidEntry" "InvalidEntry.__init__" iInvalidEntry) rfl))
    (cfB_ok (st := iInvalidCommand) (fact hb 18 rfl) (PH.fn_at hf 14 (d := fnOfI "InvalidCommand" "InvalidCommand.__init__" iInvalidCommand) rfl))
    (cfB_ok (st := iInvalidWords) (fact hb 19 rfl) (PH.fn_at hf 15 (d := fnOfI "InvalidWords" "InvalidWords.__init__" iInvalidWords) rfl))
    (cfB_ok (st := iInvalidTriggers) (fact hb 20 rfl) (PH.fn_at hf 16 (d := fnOfI "InvalidTriggers" "InvalidTriggers.__init__" iInvalidTriggers) rfl))
    (cfB_ok (st := iInvalidMakes) (fact hb 21 rfl) (PH.fn_at hf 17 (d := fnOfI "InvalidMakes" "InvalidMakes.__init__" iInvalidMakes) rfl))
    (cfB_ok (st := iInvalidSayings) (fact hb 22 rfl) (PH.fn_at hf 18 (d := fnOfI "InvalidSayings" "InvalidSayings.__init__" iInvalidSayings) rfl))
    (cfB_ok (st := iInvalidThings) (fact hb 23 rfl) (PH.fn_at hf 19 (d := fnOfI "InvalidThings" "InvalidThings.__init__" iInvalidThings) rfl))
    (cfB_ok (st := iInvalidTerms) (fact hb 24 rfl) (PH.fn_at hf 20 (d := fnOfI "InvalidTerms" "InvalidTerms.__init__" iInvalidTerms) rfl))
    (cfB_ok (st := iInvalidPairs) (fact hb 25 rfl) (PH.fn_at hf 21 (d := fnOfI "InvalidPairs" "InvalidPairs.__init__" iInvalidPairs) rfl))
    (cfB_ok (st := iInvalidInstances) (fact hb 26 rfl) (PH.fn_at hf 22 (d := fnOfI "InvalidInstances" "InvalidInstances.__init__" iInvalidInstances) rfl))
    (cfB_ok (st := iInvalidOffers) (fact hb 27 rfl) (PH.fn_at hf 23 (d := fnOfI "InvalidOffers" "InvalidOffers.__init__" iInvalidOffers) rfl))
    (cfB_ok (st := iInvalidText) (fact hb 28 rfl) (PH.fn_at hf 24 (d := fnOfI "InvalidText" "InvalidText.__init__" iInvalidText) rfl))
    (cfB_ok (st := iUnknownLetter) (fact hb 29 rfl) (PH.fn_at hf 25 (d := fnOfI "UnknownLetter" "UnknownLetter.__init__" iUnknownLetter) rfl))
    (cfB_ok (st := iUnknownTerm) (fact hb 30 rfl) (PH.fn_at hf 26 (d := fnOfI "UnknownTerm" "UnknownTerm.__init__" iUnknownTerm) rfl))
    (cfB_ok (st := iUnknownName) (fact hb 31 rfl) (PH.fn_at hf 27 (d := fnOfI "UnknownName" "UnknownName.__init__" iUnknownName) rfl))
    (cfB_ok (st := iNothingToUndo) (fact hb 32 rfl) (PH.fn_at hf 28 (d := fnOfI "NothingToUndo" "NothingToUndo.__init__" iNothingToUndo) rfl))
    (cfB_ok (st := iCantMake) (fact hb 33 rfl) (PH.fn_at hf 29 (d := fnOfI "CantMake" "CantMake.__init__" iCantMake) rfl))
    (cfB_ok (st := iCommandFailed) (fact hb 34 rfl) (PH.fn_at hf 30 (d := fnOfI "CommandFailed" "CommandFailed.__init__" iCommandFailed) rfl))
    (cfB_ok (st := iTooMany) (fact hb 35 rfl) (PH.fn_at hf 31 (d := fnOfI "TooMany" "TooMany.__init__" iTooMany) rfl))
    (dfB_ok (st := s_law_pot) (fact hb 36 rfl) (PH.fn_at hf 32 (d := fnOfD "_law_pot" s_law_pot) rfl))
    (dfB_ok (st := s_law_draw) (fact hb 37 rfl) (PH.fn_at hf 33 (d := fnOfD "_law_draw" s_law_draw) rfl))
    (dfB_ok (st := s_law_pick) (fact hb 38 rfl) (PH.fn_at hf 34 (d := fnOfD "_law_pick" s_law_pick) rfl))
    (dfB_ok (st := s_law_thing) (fact hb 39 rfl) (PH.fn_at hf 35 (d := fnOfD "_law_thing" s_law_thing) rfl))
    (dfB_ok (st := s_law_wakes) (fact hb 40 rfl) (PH.fn_at hf 36 (d := fnOfD "_law_wakes" s_law_wakes) rfl))
    (dfB_ok (st := s_law_which_wake) (fact hb 41 rfl) (PH.fn_at hf 37 (d := fnOfD "_law_which_wake" s_law_which_wake) rfl))
    (dfB_ok (st := s_law_rest) (fact hb 42 rfl) (PH.fn_at hf 38 (d := fnOfD "_law_rest" s_law_rest) rfl))
    (dfB_ok (st := s_law_which_rest) (fact hb 43 rfl) (PH.fn_at hf 39 (d := fnOfD "_law_which_rest" s_law_which_rest) rfl))
    (dfB_ok (st := s_law_bases) (fact hb 44 rfl) (PH.fn_at hf 40 (d := fnOfD "_law_bases" s_law_bases) rfl))
    (dfB_ok (st := s_law_classes_right) (fact hb 45 rfl) (PH.fn_at hf 41 (d := fnOfD "_law_classes_right" s_law_classes_right) rfl))
    (dfB_ok (st := s_law_fields_right) (fact hb 46 rfl) (PH.fn_at hf 42 (d := fnOfD "_law_fields_right" s_law_fields_right) rfl))
    (dfB_ok (st := s_law_named_right) (fact hb 47 rfl) (PH.fn_at hf 43 (d := fnOfD "_law_named_right" s_law_named_right) rfl))
    (dfB_ok (st := s_law_right) (fact hb 48 rfl) (PH.fn_at hf 44 (d := fnOfD "_law_right" s_law_right) rfl))
    (dfB_ok (st := slaw) (fact hb 49 rfl) (PH.fn_at hf 45 (d := fnOfD "law" slaw) rfl))
    (fact hb 50 rfl) (fact hb 51 rfl) (fact hb 52 rfl)
def names0 : List Str := ["WakeError", "MissingError", "StateError", "LimitError", "InvalidLetter", "InvalidWord", "InvalidWords", "InvalidNumber", "InvalidFront", "InvalidTriggers", "InvalidMakes", "InvalidSaying", "InvalidSayings", "InvalidBook", "InvalidThings", "InvalidTerm", "InvalidTerms", "InvalidPairs", "InvalidWeb", "InvalidInstances", "InvalidMaker", "InvalidOffers", "InvalidChoice", "InvalidWish", "InvalidText", "InvalidClaim", "InvalidName", "InvalidEntry", "InvalidCommand", "UnknownLetter"]
def names1 : List Str := ["UnknownTerm", "UnknownName", "NothingToUndo", "CantMake", "CommandFailed", "TooMany", "_law_pot", "_law_draw", "_law_pick", "_law_thing", "_law_wakes", "_law_which_wake", "_law_rest", "_law_which_rest", "_law_bases", "_law_classes_right", "_law_fields_right", "_law_named_right", "_law_right"]
def names : List Str := names0 ++ names1
abbrev R : PySem.W.OpenRow := PySem.W.OpenLaw.row PySem.Challenge.rw_wakesayings_k16_errors
abbrev hk : PySem.W.Hook := PH.hook 5 allB fnL
def ob (s : PySem.W.SharedT) : Bool × List He.FnV := PH.obs 5 allB fnL (HandSHeadRun.getT s)
theorem ob_eq (s : PySem.W.SharedT) : ob s = hk.obs s.abs := PH.obs_eq s
end K16

set_option Elab.async false
set_option maxRecDepth 100000
set_option maxHeartbeats 0
theorem K16.run (w : PySem.World) : HandSHeadRun.RunEq K16.R (PySem.W.view K16.R.prog [51]) K16.hk K16.ob 12000 K16.names w := by
  intro os
  kernel_rfl
open PySem PySem.W PySem.Calls PyProof.Rows
theorem PySem.Challenge.cw_wakesayings_k16_errors_holds : PySem.Challenge.rw_wakesayings_k16_errors.Holds := by
  w_on; o_law
  refine HandSHeadRun.head_any (r := OpenLaw.row PySem.Challenge.rw_wakesayings_k16_errors) (q := view (OpenLaw.row PySem.Challenge.rw_wakesayings_k16_errors).prog [51]) (H := K16.hk) (ob := K16.ob) (M := 12000) (loose := K16.names) (d := HandSHeadRun.topDef (OpenLaw.row PySem.Challenge.rw_wakesayings_k16_errors).prog 51) (kwd := []) K16.ob_eq
    (by kernel_rfl) (fun s => by kernel_rfl) K16.run (by kernel_rfl) (by kernel_rfl) (by kernel_rfl) (by rfl) (by first | assumption | decide +kernel) (by decide +kernel) ⟨rfl, rfl, rfl, rfl, rfl, by decide +kernel⟩ ?hw ?hc
  case hw => w_witness2
  case hc =>
    refine PH.walk (l := PySem.Challenge.rw_wakesayings_k16_errors) (n := 63) (k := 6) (x := "_law_script") rfl (by decide) (by kernel_rfl) ⟨rfl, by decide, by decide⟩ ?F
    intro w mg fa h Y G hmg0
    obtain ⟨K, KX, c1, c2⟩ := Y
    have hmg : mg ("law" : PySem.Str) = some (.ref fa) := by
      have e : (HandSHeadRun.topDef (OpenLaw.row PySem.Challenge.rw_wakesayings_k16_errors).prog 51).name = ("law" : PySem.Str) := by kernel_rfl
      rw [← e]
      exact hmg0
    obtain ⟨fd, hb, hF⟩ := K16.told (P := (PySem.Challenge.rw_wakesayings_k16_errors).prog) (w := w) G hmg KX c1 c2
    exact ⟨K, fd, K16.spLaw K, KX, hb, fun H a ns hl _ hS => ⟨a, ns, rfl, hS, fun _ => rfl⟩, hF⟩

