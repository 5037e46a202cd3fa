import PyProof.Rows.All
import Wide.All
import OpenK.AllK
import Wide.FinOn
import HandS.ForMost
import HandS.EndBits
import HandS.Wide
import HandS.IsInst
import HandS.Defaults
import HandS.Exc
import HandS.WordsExc
import HandS.More
import HandS.SetFor
import HandS.SortInts
import HandS.Deep
import PySem.Challenge.RW_handpiles_k56_windows
set_option Elab.async false
set_option linter.all false
set_option autoImplicit false
set_option maxRecDepth 100000
set_option maxHeartbeats 1000000
/-! Vt1: plain data, how it stands in the heap, who owns which cell. -/
namespace Vt
open PySem L2

/-- the shape of a node -/
inductive Sh where
  | lst | tup
  /-- a list that is locked: the script -/
  | scr
  | dK (ks : List Key) | dT (ks : List (List Key))
  | obj (C : Addr) (ns : List Str)
/-- plain data -/
inductive D where
  | non | bl (b : Bool) | int (i : Int) | str (x : Str)
  | nd (s : Sh) (xs : List D)
@[reducible] def D.lst (xs : List D) : D := .nd .lst xs
@[reducible] def D.tup (xs : List D) : D := .nd .tup xs
/-- who owns: z: nobody (frozen); all k: this node is owned, its children are of the kind k; each ks -/
inductive Kd where
  | z | all (k : Kd) | each (ks : List Kd)
def Kd.isZ : Kd → Bool
  | .z => true
  | _ => false
def Kd.kid : Kd → Nat → Kd
  | .z, _ => .z
  | .all k, _ => k
  | .each ks, i => ks.getD i .z
def Sh.ho (s : Sh) (dx : Addr) (vs : List V) : HO := match s with
  | .lst => .lst vs
  | .tup => .tup vs
  | .scr => .lst vs
  | .dK ks => .dK (ks.zip vs)
  | .dT ks => .dT (ks.zip vs)
  | .obj C ns => .ins C dx (ns.zip vs)
def Sh.isT : Sh → Bool
  | .tup => true
  | .scr => true
  | _ => false
def Sh.ok (s : Sh) (H : Hp) (a dx : Addr) (n : Nat) : Prop := match s with
  | .lst => True
  | .tup => True
  | .scr => True
  | .dK ks => ks.length = n ∧ ks.Nodup
  | .dT ks => ks.length = n ∧ ks.Nodup
  | .obj _ ns => H dx = some (.own a) ∧ ns.length = n ∧ ns.Nodup

/-- what stands at a -/
def Sh.std (s : Sh) (H : Hp) (a dx : Addr) (vs : List V) : Prop := match s with
  | .scr => ∃ o, H a = some (.frz o (.lst vs))
  | s => H a = some (s.ho dx vs)

def Ex (H H' : Hp) : Prop := ∀ a o, H a = some o → H' a = some o
theorem Ex.refl (H : Hp) : Ex H H := fun _ _ h => h
theorem Ex.trans {H H1 H2 : Hp} (a : Ex H H1) (b : Ex H1 H2) : Ex H H2 := fun x o h => b x o (a x o h)
theorem Ex.new {H : Hp} {p : Addr} {o : HO} (h : H p = none) : Ex H (upd H p o) := fun a u e => by
  rw [upd_ne (ne_of_none e h)]
  exact e
theorem Ex.none {H H' : Hp} {p : Addr} (e : Ex H H') (h : H' p = none) : H p = none := by
  cases h1 : H p with
  | none => rfl
  | some o => rw [e p o h1] at h; cases h
theorem Ex.rd {H H' : Hp} {a : Addr} {u : HO} (e : Ex H H') (h : Rd H a u) : Rd H' a u := by
  rcases h with h | ⟨o, h⟩
  · exact Or.inl (e a _ h)
  · exact Or.inr ⟨o, e a _ h⟩
theorem Sh.std_mono {s : Sh} {H H' : Hp} {a dx : Addr} {vs : List V} (e : Ex H H') (h : s.std H a dx vs) : s.std H' a dx vs := by
  cases s with
  | scr => obtain ⟨o, h⟩ := h; exact ⟨o, e _ _ h⟩
  | lst => exact e _ _ h
  | tup => exact e _ _ h
  | dK ks => exact e _ _ h
  | dT ks => exact e _ _ h
  | obj C ns => exact e _ _ h
theorem Sh.std_of {s : Sh} {H : Hp} {a dx : Addr} {vs : List V} (hs : s.isT = false) (h : H a = some (s.ho dx vs)) : s.std H a dx vs := by
  cases s with
  | scr => cases hs
  | _ => exact h
theorem Sh.ok_mono {s : Sh} {H H' : Hp} {a dx : Addr} {n : Nat} (e : Ex H H') (h : s.ok H a dx n) : s.ok H' a dx n := by
  cases s with
  | obj C ns => exact ⟨e _ _ h.1, h.2⟩
  | _ => exact h

/-- the heap bears the data at the value (who owns it is left open) -/
def Rf (H : Hp) : D → V → Prop
  | .non, v => v = .non
  | .bl b, v => v = .bl b
  | .int i, v => v = .int i
  | .str x, v => v = .str x
  | .nd s xs, v => ∃ a dx vs, v = .ref a ∧ s.std H a dx vs ∧ s.ok H a dx xs.length ∧ RfL xs vs
where RfL : List D → List V → Prop
  | [], vs => vs = []
  | d :: ds, vs => ∃ u us, vs = u :: us ∧ Rf H d u ∧ RfL ds us
abbrev RfL (H : Hp) := Rf.RfL H

mutual
theorem Rf.mono {H H' : Hp} (e : Ex H H') : ∀ {d : D} {v : V}, Rf H d v → Rf H' d v
  | .non, _, h => h
  | .bl _, _, h => h
  | .int _, _, h => h
  | .str _, _, h => h
  | .nd s xs, v, h => by
    obtain ⟨a, dx, vs, h1, h2, h3, h4⟩ := h
    exact ⟨a, dx, vs, h1, Sh.std_mono e h2, Sh.ok_mono e h3, RfL.mono e h4⟩
theorem RfL.mono {H H' : Hp} (e : Ex H H') : ∀ {ds : List D} {vs : List V}, RfL H ds vs → RfL H' ds vs
  | [], _, h => h
  | d :: ds, vs, h => by
    obtain ⟨u, us, h1, h2, h3⟩ := h
    exact ⟨u, us, h1, Rf.mono e h2, RfL.mono e h3⟩
end
theorem RfL.length {H : Hp} : ∀ {ds : List D} {vs : List V}, RfL H ds vs → vs.length = ds.length
  | [], _, h => by subst h; rfl
  | d :: ds, vs, h => by
    obtain ⟨u, us, h1, h2, h3⟩ := h
    subst h1
    simp [RfL.length h3]
theorem RfL.get {H : Hp} : ∀ {ds : List D} {vs : List V} {i : Nat} {d : D}, RfL H ds vs → ds[i]? = some d → ∃ v, vs[i]? = some v ∧ Rf H d v
  | [], _, i, d, h, e => by simp at e
  | d :: ds, vs, 0, _, h, e => by
    obtain ⟨u, us, h1, h2, h3⟩ := h
    subst h1
    simp at e; subst e
    exact ⟨u, rfl, h2⟩
  | d :: ds, vs, i + 1, _, h, e => by
    obtain ⟨u, us, h1, h2, h3⟩ := h
    subst h1
    obtain ⟨v, a, b⟩ := RfL.get (i := i) h3 (by simpa using e)
    exact ⟨v, by simpa using a, b⟩
theorem RfL.append {H : Hp} : ∀ {ds es : List D} {vs us : List V}, RfL H ds vs → RfL H es us → RfL H (ds ++ es) (vs ++ us)
  | [], _, _, _, h, h' => by
    have h : _ = [] := h
    subst h; exact h'
  | d :: ds, _, vs, _, h, h' => by
    obtain ⟨u, us, h1, h2, h3⟩ := h
    subst h1
    exact ⟨u, _, rfl, h2, RfL.append h3 h'⟩
theorem RfL.take {H : Hp} : ∀ {ds : List D} {vs : List V} (n : Nat), RfL H ds vs → RfL H (ds.take n) (vs.take n)
  | ds, vs, 0, h => by simp [RfL, Rf.RfL]
  | [], _, n + 1, h => by
    have h : _ = [] := h
    subst h; simp [RfL, Rf.RfL]
  | d :: ds, vs, n + 1, h => by
    obtain ⟨u, us, h1, h2, h3⟩ := h
    subst h1
    exact ⟨u, _, rfl, h2, RfL.take n h3⟩
theorem RfL.drop {H : Hp} : ∀ {ds : List D} {vs : List V} (n : Nat), RfL H ds vs → RfL H (ds.drop n) (vs.drop n)
  | ds, vs, 0, h => by simpa using h
  | [], _, n + 1, h => by
    have h : _ = [] := h
    subst h; simp [RfL, Rf.RfL]
  | d :: ds, vs, n + 1, h => by
    obtain ⟨u, us, h1, h2, h3⟩ := h
    subst h1
    exact RfL.drop n h3
theorem RfL.nil {H : Hp} : RfL H [] [] := rfl
theorem RfL.cons {H : Hp} {d : D} {ds : List D} {v : V} {vs : List V} (a : Rf H d v) (b : RfL H ds vs) : RfL H (d :: ds) (v :: vs) := ⟨v, vs, rfl, a, b⟩
theorem RfL.set {H : Hp} : ∀ {ds : List D} {vs : List V} {i : Nat} {d : D} {v : V}, RfL H ds vs → Rf H d v → RfL H (ds.set i d) (vs.set i v)
  | [], _, i, _, _, h, h' => by
    have h : _ = [] := h
    subst h; exact rfl
  | d :: ds, vs, 0, _, _, h, h' => by
    obtain ⟨u, us, h1, h2, h3⟩ := h
    subst h1
    exact ⟨_, _, rfl, h', h3⟩
  | d :: ds, vs, i + 1, _, _, h, h' => by
    obtain ⟨u, us, h1, h2, h3⟩ := h
    subst h1
    exact ⟨u, _, rfl, h2, RfL.set h3 h'⟩

def one (a x : Addr) : Nat := if x = a then 1 else 0
abbrev Fp := Addr → Nat

/-- data of a kind at a value; f tells the owned cells (each once) -/
def Rk (H0 H : Hp) : D → Kd → V → Fp → Prop
  | .nd s xs, k, v, f => if k.isZ = true then Rf H0 (.nd s xs) v ∧ ∀ x, f x = 0 else
      ∃ a dx vs g, v = .ref a ∧ (if s.isT = true then s.std H0 a dx vs ∧ (∀ x, f x = g x) else H a = some (s.ho dx vs) ∧ ∀ x, f x = g x + one a x) ∧ s.ok H0 a dx xs.length ∧ RkL xs k.kid vs g
  | d, _, v, f => Rf H0 d v ∧ ∀ x, f x = 0
where RkL : List D → (Nat → Kd) → List V → Fp → Prop
  | [], _, vs, f => vs = [] ∧ ∀ x, f x = 0
  | d :: ds, kf, vs, f => ∃ u us f1 f2, vs = u :: us ∧ Rk H0 H d (kf 0) u f1 ∧ RkL ds (fun i => kf (i + 1)) us f2 ∧ ∀ x, f x = f1 x + f2 x
abbrev RkL (H0 H : Hp) := Rk.RkL H0 H

theorem Rk.z_iff {H0 H : Hp} {d : D} {v : V} {f : Fp} : Rk H0 H d .z v f ↔ Rf H0 d v ∧ ∀ x, f x = 0 := by
  cases d <;> simp [Rk, Kd.isZ]
theorem Rk.z {H0 H : Hp} {d : D} {v : V} (h : Rf H0 d v) : Rk H0 H d .z v (fun _ => 0) := Rk.z_iff.mpr ⟨h, fun _ => rfl⟩
theorem Rk.nd_iff {H0 H : Hp} {s : Sh} {xs : List D} {k : Kd} {v : V} {f : Fp} (hk : k.isZ = false) : Rk H0 H (.nd s xs) k v f ↔
    ∃ a dx vs g, v = .ref a ∧ (if s.isT = true then s.std H0 a dx vs ∧ (∀ x, f x = g x) else H a = some (s.ho dx vs) ∧ ∀ x, f x = g x + one a x) ∧ s.ok H0 a dx xs.length ∧ RkL H0 H xs k.kid vs g := by
  simp [Rk, hk]
theorem Rk.ext {H0 H : Hp} {d : D} {k : Kd} {v : V} {f f' : Fp} (h : Rk H0 H d k v f) (e : ∀ x, f' x = f x) : Rk H0 H d k v f' := by
  have : f' = f := funext e
  subst this; exact h
theorem RkL.ext {H0 H : Hp} {ds : List D} {kf : Nat → Kd} {vs : List V} {f f' : Fp} (h : RkL H0 H ds kf vs f) (e : ∀ x, f' x = f x) : RkL H0 H ds kf vs f' := by
  have : f' = f := funext e
  subst this; exact h

mutual
theorem Rk.mono {H0 H H0' H' : Hp} (e : Ex H0 H0') : ∀ {d : D} {k : Kd} {v : V} {f : Fp}, (∀ x o, 1 ≤ f x → H x = some o → H' x = some o) → Rk H0 H d k v f → Rk H0' H' d k v f
  | .non, _, _, _, _, h => ⟨h.1, h.2⟩
  | .bl _, _, _, _, _, h => ⟨h.1, h.2⟩
  | .int _, _, _, _, _, h => ⟨h.1, h.2⟩
  | .str _, _, _, _, _, h => ⟨h.1, h.2⟩
  | .nd s xs, k, v, f, hf, h => by
    cases hk : k.isZ with
    | true =>
      simp only [Rk, hk, if_true] at h ⊢
      exact ⟨Rf.mono e h.1, h.2⟩
    | false =>
      rw [Rk.nd_iff hk] at h ⊢
      obtain ⟨a, dx, vs, g, h1, h2, h3, h4⟩ := h
      refine ⟨a, dx, vs, g, h1, ?_, Sh.ok_mono e h3, RkL.mono e ?_ h4⟩
      · split at h2
        · rename_i ht; rw [if_pos ht]; exact ⟨Sh.std_mono e h2.1, h2.2⟩
        · rename_i ht; rw [if_neg ht]; exact ⟨hf a _ (by rw [h2.2]; simp [one]) h2.1, h2.2⟩
      · intro x o hx hH
        refine hf x o ?_ hH
        split at h2
        · rw [h2.2]; exact hx
        · rw [h2.2]; omega
theorem RkL.mono {H0 H H0' H' : Hp} (e : Ex H0 H0') : ∀ {ds : List D} {kf : Nat → Kd} {vs : List V} {f : Fp}, (∀ x o, 1 ≤ f x → H x = some o → H' x = some o) → RkL H0 H ds kf vs f → RkL H0' H' ds kf vs f
  | [], _, _, _, _, h => h
  | d :: ds, kf, vs, f, hf, h => by
    obtain ⟨u, us, f1, f2, h1, h2, h3, h4⟩ := h
    exact ⟨u, us, f1, f2, h1, Rk.mono e (fun x o hx => hf x o (by rw [h4]; omega)) h2, RkL.mono e (fun x o hx => hf x o (by rw [h4]; omega)) h3, h4⟩
end

theorem Sh.mut {s : Sh} (h : s.isT = false) (dx : Addr) (vs : List V) : Mut (some (s.ho dx vs)) := by
  cases s <;> simp [Sh.isT, Sh.ho, Mut] at h ⊢

mutual
/-- an owned cell stands, and may be written -/
theorem Rk.cell {H0 H : Hp} : ∀ {d : D} {k : Kd} {v : V} {f : Fp} {x : Addr}, Rk H0 H d k v f → 1 ≤ f x → ∃ o, H x = some o ∧ Mut (some o)
  | .non, _, _, _, x, h, hx => by have := h.2 x; omega
  | .bl _, _, _, _, x, h, hx => by have := h.2 x; omega
  | .int _, _, _, _, x, h, hx => by have := h.2 x; omega
  | .str _, _, _, _, x, h, hx => by have := h.2 x; omega
  | .nd s xs, k, v, f, x, h, hx => by
    cases hk : k.isZ with
    | true =>
      simp only [Rk, hk, if_true] at h
      have := h.2 x; omega
    | false =>
      rw [Rk.nd_iff hk] at h
      obtain ⟨a, dx, vs, g, h1, h2, h3, h4⟩ := h
      split at h2
      · exact RkL.cell h4 (by rw [← h2.2]; exact hx)
      · rename_i ht
        by_cases e : x = a
        · subst e
          exact ⟨_, h2.1, Sh.mut (by simpa using ht) dx vs⟩
        · refine RkL.cell h4 ?_
          have := h2.2 x
          simp only [one, if_neg e] at this
          omega
theorem RkL.cell {H0 H : Hp} : ∀ {ds : List D} {kf : Nat → Kd} {vs : List V} {f : Fp} {x : Addr}, RkL H0 H ds kf vs f → 1 ≤ f x → ∃ o, H x = some o ∧ Mut (some o)
  | [], _, _, _, x, h, hx => by have := h.2 x; omega
  | d :: ds, kf, vs, f, x, h, hx => by
    obtain ⟨u, us, f1, f2, h1, h2, h3, h4⟩ := h
    by_cases e : 1 ≤ f1 x
    · exact Rk.cell h2 e
    · exact RkL.cell h3 (by have := h4 x; omega)
end

mutual
/-- frozen: the owned cells are known from now on -/
theorem Rk.freeze {H0 H H0' : Hp} (e : Ex H0 H0') : ∀ {d : D} {k : Kd} {v : V} {f : Fp}, (∀ x o, 1 ≤ f x → H x = some o → H0' x = some o) → Rk H0 H d k v f → Rf H0' d v
  | .non, _, _, _, _, h => Rf.mono e h.1
  | .bl _, _, _, _, _, h => Rf.mono e h.1
  | .int _, _, _, _, _, h => Rf.mono e h.1
  | .str _, _, _, _, _, h => Rf.mono e h.1
  | .nd s xs, k, v, f, hf, h => by
    cases hk : k.isZ with
    | true =>
      simp only [Rk, hk, if_true] at h
      exact Rf.mono e h.1
    | false =>
      rw [Rk.nd_iff hk] at h
      obtain ⟨a, dx, vs, g, h1, h2, h3, h4⟩ := h
      refine ⟨a, dx, vs, h1, ?_, Sh.ok_mono e h3, RkL.freeze e ?_ h4⟩
      · split at h2
        · exact Sh.std_mono e h2.1
        · rename_i ht; exact Sh.std_of (by simpa using ht) (hf a _ (by rw [h2.2]; simp [one]) h2.1)
      · intro x o hx hH
        refine hf x o ?_ hH
        split at h2
        · rw [h2.2]; exact hx
        · rw [h2.2]; omega
theorem RkL.freeze {H0 H H0' : Hp} (e : Ex H0 H0') : ∀ {ds : List D} {kf : Nat → Kd} {vs : List V} {f : Fp}, (∀ x o, 1 ≤ f x → H x = some o → H0' x = some o) → RkL H0 H ds kf vs f → RfL H0' ds vs
  | [], _, _, _, _, h => h.1
  | d :: ds, kf, vs, f, hf, h => by
    obtain ⟨u, us, f1, f2, h1, h2, h3, h4⟩ := h
    exact ⟨u, us, h1, Rk.freeze e (fun x o hx => hf x o (by rw [h4]; omega)) h2, RkL.freeze e (fun x o hx => hf x o (by rw [h4]; omega)) h3⟩
end
theorem Rk.rf {H0 H : Hp} (e : Ex H0 H) {d : D} {k : Kd} {v : V} {f : Fp} (h : Rk H0 H d k v f) : Rf H d v := h.freeze e fun _ _ _ q => q
theorem RkL.rf {H0 H : Hp} (e : Ex H0 H) {ds : List D} {kf : Nat → Kd} {vs : List V} {f : Fp} (h : RkL H0 H ds kf vs f) : RfL H ds vs := h.freeze e fun _ _ _ q => q

theorem RkL.z {H0 H : Hp} : ∀ {ds : List D} {vs : List V}, RfL H0 ds vs → RkL H0 H ds (fun _ => .z) vs (fun _ => 0)
  | [], _, h => ⟨h, fun _ => rfl⟩
  | d :: ds, vs, h => by
    obtain ⟨u, us, h1, h2, h3⟩ := h
    exact ⟨u, us, _, _, h1, Rk.z h2, RkL.z h3, fun _ => rfl⟩
theorem RkL.of_z {H0 H : Hp} : ∀ {ds : List D} {kf : Nat → Kd} {vs : List V} {f : Fp}, (∀ i, i < ds.length → kf i = .z) → RkL H0 H ds kf vs f → RfL H0 ds vs ∧ ∀ x, f x = 0
  | [], _, _, _, _, h => h
  | d :: ds, kf, vs, f, hz, h => by
    obtain ⟨u, us, f1, f2, h1, h2, h3, h4⟩ := h
    rw [hz 0 (by simp)] at h2
    have a := Rk.z_iff.mp h2
    have b := RkL.of_z (fun i hi => hz (i + 1) (by simp; omega)) h3
    exact ⟨⟨u, us, h1, a.1, b.1⟩, fun x => by rw [h4, a.2, b.2]⟩
theorem RkL.length {H0 H : Hp} : ∀ {ds : List D} {kf : Nat → Kd} {vs : List V} {f : Fp}, RkL H0 H ds kf vs f → vs.length = ds.length
  | [], _, _, _, h => by rw [h.1]; rfl
  | d :: ds, kf, vs, f, h => by
    obtain ⟨u, us, f1, f2, h1, h2, h3, h4⟩ := h
    subst h1
    simp [RkL.length h3]
theorem RkL.get {H0 H : Hp} : ∀ {ds : List D} {kf : Nat → Kd} {vs : List V} {f : Fp} {i : Nat} {d : D}, RkL H0 H ds kf vs f → ds[i]? = some d → ∃ v f1, vs[i]? = some v ∧ Rk H0 H d (kf i) v f1 ∧ ∀ x, f1 x ≤ f x
  | [], _, _, _, i, d, h, e => by simp at e
  | d :: ds, kf, vs, f, 0, _, h, e => by
    obtain ⟨u, us, f1, f2, h1, h2, h3, h4⟩ := h
    subst h1
    simp at e; subst e
    exact ⟨u, f1, rfl, h2, fun x => by rw [h4]; omega⟩
  | d :: ds, kf, vs, f, i + 1, _, h, e => by
    obtain ⟨u, us, f1, f2, h1, h2, h3, h4⟩ := h
    subst h1
    obtain ⟨v, g, a, b, c⟩ := RkL.get (i := i) h3 (by simpa using e)
    exact ⟨v, g, by simpa using a, b, fun x => by rw [h4]; have := c x; omega⟩
end Vt

set_option Elab.async false
set_option linter.all false
set_option autoImplicit false
set_option maxRecDepth 100000
set_option maxHeartbeats 1000000
/-! Vt2: the state of a body: slots, temporaries, what is frozen, what is owned, what is foreign. -/
namespace Vt
open PySem L2

/-- a slot: nothing known; data of a kind -/
inductive Sl where
  | un | val (k : Kd) (d : D)
abbrev Env := List Sl
abbrev Tm := Kd × D × V

def RkS (H0 H : Hp) : Sl → Option V → Fp → Prop
  | .val k d, o, f => ∃ v, o = some v ∧ Rk H0 H d k v f
  | .un, _, f => ∀ x, f x = 0
def RkE (H0 H : Hp) : Env → L2.St → Fp → Prop
  | [], σ, f => σ = [] ∧ ∀ x, f x = 0
  | s :: e, σ, f => ∃ o us f1 f2, σ = o :: us ∧ RkS H0 H s o f1 ∧ RkE H0 H e us f2 ∧ ∀ x, f x = f1 x + f2 x
def RkT (H0 H : Hp) : List Tm → Fp → Prop
  | [], f => ∀ x, f x = 0
  | t :: ts, f => ∃ f1 f2, Rk H0 H t.2.1 t.1 t.2.2 f1 ∧ RkT H0 H ts f2 ∧ ∀ x, f x = f1 x + f2 x

section
variable {H0 H H0' H' : Hp}
theorem RkS.mono {s : Sl} {o : Option V} {f : Fp} (e : Ex H0 H0') (k : ∀ x o, 1 ≤ f x → H x = some o → H' x = some o) (h : RkS H0 H s o f) : RkS H0' H' s o f := by
  cases s with
  | val k' d => obtain ⟨v, h1, h2⟩ := h; exact ⟨v, h1, h2.mono e k⟩
  | un => exact h
theorem RkE.mono (e : Ex H0 H0') : ∀ {env : Env} {σ : L2.St} {f : Fp}, (∀ x o, 1 ≤ f x → H x = some o → H' x = some o) → RkE H0 H env σ f → RkE H0' H' env σ f
  | [], _, _, _, h => h
  | s :: env, σ, f, k, h => by
    obtain ⟨o, us, f1, f2, h1, h2, h3, h4⟩ := h
    exact ⟨o, us, f1, f2, h1, h2.mono e fun x o hx => k x o (by rw [h4]; omega), RkE.mono e (fun x o hx => k x o (by rw [h4]; omega)) h3, h4⟩
theorem RkT.mono (e : Ex H0 H0') : ∀ {ts : List Tm} {f : Fp}, (∀ x o, 1 ≤ f x → H x = some o → H' x = some o) → RkT H0 H ts f → RkT H0' H' ts f
  | [], _, _, h => h
  | t :: ts, f, k, h => by
    obtain ⟨f1, f2, h2, h3, h4⟩ := h
    exact ⟨f1, f2, h2.mono e fun x o hx => k x o (by rw [h4]; omega), RkT.mono e (fun x o hx => k x o (by rw [h4]; omega)) h3, h4⟩
theorem RkE.length : ∀ {env : Env} {σ : L2.St} {f : Fp}, RkE H0 H env σ f → σ.length = env.length
  | [], _, _, h => by rw [h.1]; rfl
  | s :: env, σ, f, h => by
    obtain ⟨o, us, f1, f2, h1, h2, h3, h4⟩ := h
    subst h1; simp [RkE.length h3]
theorem RkE.cell : ∀ {env : Env} {σ : L2.St} {f : Fp} {x : Addr}, RkE H0 H env σ f → 1 ≤ f x → ∃ o, H x = some o ∧ Mut (some o)
  | [], _, _, x, h, hx => by have := h.2 x; omega
  | s :: env, σ, f, x, h, hx => by
    obtain ⟨o, us, f1, f2, h1, h2, h3, h4⟩ := h
    by_cases e : 1 ≤ f1 x
    · cases s with
      | val k d => obtain ⟨v, _, h2⟩ := h2; exact h2.cell e
      | un => have := h2 x; omega
    · exact RkE.cell h3 (by have := h4 x; omega)
theorem RkT.cell : ∀ {ts : List Tm} {f : Fp} {x : Addr}, RkT H0 H ts f → 1 ≤ f x → ∃ o, H x = some o ∧ Mut (some o)
  | [], _, x, h, hx => by have := h x; omega
  | t :: ts, f, x, h, hx => by
    obtain ⟨f1, f2, h2, h3, h4⟩ := h
    by_cases e : 1 ≤ f1 x
    · exact h2.cell e
    · exact RkT.cell h3 (by have := h4 x; omega)
/-- a slot's data taken out -/
theorem RkE.take : ∀ {env : Env} {σ : L2.St} {f : Fp} {i : Nat} {s : Sl}, RkE H0 H env σ f → env[i]? = some s → ∃ o f1 f2, σ[i]? = some o ∧ RkS H0 H s o f1 ∧ RkE H0 H (env.set i .un) σ f2 ∧ ∀ x, f x = f1 x + f2 x
  | [], _, _, i, s, h, e => by simp at e
  | s :: env, σ, f, 0, _, h, e => by
    obtain ⟨o, us, f1, f2, h1, h2, h3, h4⟩ := h
    subst h1
    simp at e; subst e
    exact ⟨o, f1, f2, rfl, h2, ⟨o, us, _, f2, rfl, fun _ => rfl, h3, fun x => by simp⟩, h4⟩
  | s :: env, σ, f, i + 1, _, h, e => by
    obtain ⟨o, us, f1, f2, h1, h2, h3, h4⟩ := h
    subst h1
    obtain ⟨o', g1, g2, a, b, c, d⟩ := RkE.take (i := i) h3 (by simpa using e)
    exact ⟨o', g1, fun x => f1 x + g2 x, by simpa using a, b, ⟨o, us, f1, g2, rfl, h2, c, fun _ => rfl⟩, fun x => by have := h4 x; have := d x; dsimp only; omega⟩
/-- .. and put in -/
theorem RkE.fill : ∀ {env : Env} {σ : L2.St} {f g : Fp} {i : Nat} {s : Sl} {o : Option V}, RkE H0 H env σ f → env[i]? = some .un → RkS H0 H s o g → RkE H0 H (env.set i s) (σ.set i o) (fun x => g x + f x)
  | [], _, _, _, i, s, _, h, e, _ => by simp at e
  | s :: env, σ, f, g, 0, _, _, h, e, r => by
    obtain ⟨o, us, f1, f2, h1, h2, h3, h4⟩ := h
    subst h1
    simp at e; subst e
    exact ⟨_, us, g, f2, rfl, r, h3, fun x => by have := h4 x; have := h2 x; dsimp only; omega⟩
  | s :: env, σ, f, g, i + 1, _, _, h, e, r => by
    obtain ⟨o, us, f1, f2, h1, h2, h3, h4⟩ := h
    subst h1
    exact ⟨o, _, f1, _, rfl, h2, RkE.fill (i := i) h3 (by simpa using e) r, fun x => by have := h4 x; dsimp only; omega⟩
theorem set_self {α : Type} : ∀ {l : List α} {i : Nat} {a : α}, l[i]? = some a → l.set i a = l
  | [], i, a, h => by simp at h
  | b :: l, 0, a, h => by simp at h; subst h; rfl
  | b :: l, i + 1, a, h => by simp only [List.set_cons_succ]; rw [set_self (by simpa using h)]
theorem set_set' {α : Type} : ∀ {l : List α} {i : Nat} {a b : α}, (l.set i a).set i b = l.set i b
  | [], i, a, b => rfl
  | c :: l, 0, a, b => rfl
  | c :: l, i + 1, a, b => by simp only [List.set_cons_succ]; rw [set_set']
/-- .. where the value stays -/
theorem RkE.fill' {env : Env} {σ : L2.St} {f g : Fp} {i : Nat} {s : Sl} {o : Option V} (h : RkE H0 H env σ f) (e : env[i]? = some .un) (ho : σ[i]? = some o) (r : RkS H0 H s o g) : RkE H0 H (env.set i s) σ (fun x => g x + f x) := by
  have := h.fill e r
  rwa [set_self ho] at this
theorem RkE.ext {env : Env} {σ : L2.St} {f f' : Fp} (h : RkE H0 H env σ f) (e : ∀ x, f' x = f x) : RkE H0 H env σ f' := by
  have : f' = f := funext e
  subst this; exact h
theorem RkT.ext {ts : List Tm} {f f' : Fp} (h : RkT H0 H ts f) (e : ∀ x, f' x = f x) : RkT H0 H ts f' := by
  have : f' = f := funext e
  subst this; exact h
theorem RkT.append : ∀ {ts us : List Tm} {f g : Fp}, RkT H0 H ts f → RkT H0 H us g → RkT H0 H (ts ++ us) (fun x => f x + g x)
  | [], us, f, g, h, h' => h'.ext fun x => by rw [h x]; omega
  | t :: ts, us, f, g, h, h' => by
    obtain ⟨f1, f2, h2, h3, h4⟩ := h
    exact ⟨f1, _, h2, RkT.append h3 h', fun x => by have := h4 x; dsimp only; omega⟩
theorem RkT.split : ∀ {ts us : List Tm} {f : Fp}, RkT H0 H (ts ++ us) f → ∃ g1 g2, RkT H0 H ts g1 ∧ RkT H0 H us g2 ∧ ∀ x, f x = g1 x + g2 x
  | [], us, f, h => ⟨fun _ => 0, f, fun _ => rfl, h, fun x => by dsimp only; omega⟩
  | t :: ts, us, f, h => by
    obtain ⟨f1, f2, h2, h3, h4⟩ := h
    obtain ⟨g1, g2, a, b, c⟩ := RkT.split h3
    exact ⟨fun x => f1 x + g1 x, g2, ⟨f1, g1, h2, a, fun _ => rfl⟩, b, fun x => by have := h4 x; have := c x; dsimp only; omega⟩
theorem RkT.perm {ts us : List Tm} (p : ts.Perm us) : ∀ {f : Fp}, RkT H0 H ts f → RkT H0 H us f := by
  induction p with
  | nil => intro f h; exact h
  | cons a _ ih => intro f h; obtain ⟨f1, f2, h2, h3, h4⟩ := h; exact ⟨f1, f2, h2, ih h3, h4⟩
  | swap a b l =>
    intro f h
    obtain ⟨f1, f2, h2, ⟨g1, g2, k2, k3, k4⟩, h4⟩ := h
    exact ⟨g1, fun x => f1 x + g2 x, k2, ⟨f1, g2, h2, k3, fun _ => rfl⟩, fun x => by have := h4 x; have := k4 x; dsimp only; omega⟩
  | trans _ _ a b => intro f h; exact b (a h)
end

/-- THE STATE: H0 what is frozen and known, HF what is foreign, H all; fe, ft the owned cells of the slots and of the temporaries -/
structure S (H0 HF H : Hp) (σ : L2.St) (env : Env) (ts : List Tm) (fe ft : Fp) : Prop where
  sub : Ex H0 H
  frm : Ex HF H
  imm : ∀ a o, H a = some o → ¬ Mut (some o) → H0 a = some o
  dis : ∀ a o, HF a = some o → H0 a = none
  re : RkE H0 H env σ fe
  tmp : RkT H0 H ts ft
  uniq : ∀ a, fe a + ft a ≤ 1
  s0 : ∀ a, 1 ≤ fe a + ft a → H0 a = none
  sF : ∀ a, 1 ≤ fe a + ft a → HF a = none

section
variable {H0 HF H : Hp} {σ : L2.St} {env : Env} {ts : List Tm} {fe ft : Fp}
theorem S.cell (s : S H0 HF H σ env ts fe ft) {x : Addr} (h : 1 ≤ fe x + ft x) : ∃ o, H x = some o ∧ Mut (some o) := by
  by_cases e : 1 ≤ fe x
  · exact s.re.cell e
  · exact s.tmp.cell (by omega)
theorem S.free {p : Addr} (s : S H0 HF H σ env ts fe ft) (h : H p = none) : fe p + ft p = 0 := by
  by_cases e : 1 ≤ fe p + ft p
  · obtain ⟨o, h1, _⟩ := s.cell e
    rw [h1] at h; cases h
  · omega
theorem S.perm {ts' : List Tm} (s : S H0 HF H σ env ts fe ft) (p : ts.Perm ts') : S H0 HF H σ env ts' fe ft :=
  ⟨s.sub, s.frm, s.imm, s.dis, s.re, s.tmp.perm p, s.uniq, s.s0, s.sF⟩
/-- a new object that nobody owns -/
theorem S.allocZ {p : Addr} {o : HO} (s : S H0 HF H σ env ts fe ft) (h : H p = none) : S (upd H0 p o) HF (upd H p o) σ env ts fe ft := by
  have h0 : H0 p = none := s.sub.none h
  have e0 : Ex H0 (upd H0 p o) := Ex.new h0
  have e1 : Ex H (upd H p o) := Ex.new h
  have hf := s.free h
  refine ⟨fun a u q => ?_, s.frm.trans e1, fun a u q m => ?_, fun a u q => ?_, s.re.mono e0 fun x o _ q => e1 x o q, s.tmp.mono e0 fun x o _ q => e1 x o q, s.uniq, fun a q => ?_, s.sF⟩
  · by_cases e : a = p
    · subst e; rw [upd_same] at q ⊢; exact q
    · rw [upd_ne e] at q ⊢; exact s.sub _ _ q
  · by_cases e : a = p
    · subst e; rw [upd_same] at q ⊢; exact q
    · rw [upd_ne e] at q ⊢; exact s.imm _ _ q m
  · have e : a ≠ p := ne_of_none (s.frm _ _ q) h
    rw [upd_ne e]; exact s.dis _ _ q
  · have e : a ≠ p := fun z => by subst z; omega
    rw [upd_ne e]; exact s.s0 _ q
/-- a new object that will be owned -/
theorem S.allocM {p : Addr} {o : HO} (s : S H0 HF H σ env ts fe ft) (h : H p = none) (m : Mut (some o)) : S H0 HF (upd H p o) σ env ts fe ft := by
  have e1 : Ex H (upd H p o) := Ex.new h
  refine ⟨s.sub.trans e1, s.frm.trans e1, fun a u q m' => ?_, s.dis, s.re.mono (Ex.refl _) fun x o _ q => e1 x o q, s.tmp.mono (Ex.refl _) fun x o _ q => e1 x o q, s.uniq, s.s0, s.sF⟩
  · by_cases e : a = p
    · subst e; rw [upd_same] at q; cases q; exact absurd m m'
    · rw [upd_ne e] at q; exact s.imm _ _ q m'
theorem S.pushZ {d : D} {v : V} (s : S H0 HF H σ env ts fe ft) (h : Rf H0 d v) : S H0 HF H σ env ((.z, d, v) :: ts) fe ft :=
  ⟨s.sub, s.frm, s.imm, s.dis, s.re, ⟨_, _, Rk.z h, s.tmp, fun x => by omega⟩, s.uniq, s.s0, s.sF⟩
/-- the temporaries cs become one that owns p and them -/
theorem S.pushO {cs : List Tm} {p : Addr} {d : D} {k : Kd} (s : S H0 HF H σ env (cs ++ ts) fe ft) (hp : H0 p = none) (hF : HF p = none) (hn : fe p + ft p = 0)
    (mk : ∀ g, RkT H0 H cs g → Rk H0 H d k (.ref p) (fun x => g x + one p x)) : S H0 HF H σ env ((k, d, .ref p) :: ts) fe (fun x => ft x + one p x) := by
  obtain ⟨g1, g2, a, b, c⟩ := s.tmp.split
  refine ⟨s.sub, s.frm, s.imm, s.dis, s.re, ⟨_, g2, mk g1 a, b, fun x => by have := c x; dsimp only; omega⟩, fun x => ?_, fun x hx => ?_, fun x hx => ?_⟩
  · have := s.uniq x
    by_cases e : x = p
    · subst e; simp only [one, if_true]; omega
    · simp only [one, if_neg e]; omega
  · by_cases e : x = p
    · subst e; exact hp
    · simp only [one, if_neg e] at hx; exact s.s0 x hx
  · by_cases e : x = p
    · subst e; exact hF
    · simp only [one, if_neg e] at hx; exact s.sF x hx
theorem S.drop {cs : List Tm} (s : S H0 HF H σ env (cs ++ ts) fe ft) : ∃ ft', S H0 HF H σ env ts fe ft' ∧ ∀ x, ft' x ≤ ft x := by
  obtain ⟨g1, g2, a, b, c⟩ := s.tmp.split
  refine ⟨g2, ⟨s.sub, s.frm, s.imm, s.dis, s.re, b, fun x => ?_, fun x hx => s.s0 x ?_, fun x hx => s.sF x ?_⟩, fun x => by rw [c]; omega⟩
  · have := s.uniq x; have := c x; omega
  · have := c x; omega
  · have := c x; omega
theorem S.pop {t : Tm} (s : S H0 HF H σ env (t :: ts) fe ft) : ∃ ft', S H0 HF H σ env ts fe ft' ∧ ∀ x, ft' x ≤ ft x := s.drop (cs := [t])
/-- what some cells hold is frozen -/
theorem S.frz0 {f : Fp} (s : S H0 HF H σ env ts fe ft) (hf : ∀ x, f x ≤ fe x + ft x) : ∃ H0', Ex H0 H0' ∧ (∀ x o, 1 ≤ f x → H x = some o → H0' x = some o) ∧ Ex H0' H ∧ (∀ a o, H a = some o → ¬ Mut (some o) → H0' a = some o) ∧ (∀ a o, HF a = some o → H0' a = none) ∧ ∀ x, f x = 0 → H0' x = H0 x := by
  refine ⟨fun x => if 1 ≤ f x then H x else H0 x, fun a o q => ?_, fun x o h q => ?_, fun a o q => ?_, fun a o q m => ?_, fun a o q => ?_, fun x q => ?_⟩
  · show (if 1 ≤ f a then H a else H0 a) = _
    split
    · exact s.sub _ _ q
    · exact q
  · show (if 1 ≤ f x then H x else H0 x) = _
    rw [if_pos h]; exact q
  · replace q : (if 1 ≤ f a then H a else H0 a) = _ := q
    split at q
    · exact q
    · exact s.sub _ _ q
  · show (if 1 ≤ f a then H a else H0 a) = _
    split
    · exact q
    · exact s.imm _ _ q m
  · show (if 1 ≤ f a then H a else H0 a) = _
    split
    · rename_i h1
      have := s.sF a (Nat.le_trans h1 (hf a))
      rw [this] at q; cases q
    · exact s.dis _ _ q
  · show (if 1 ≤ f x then H x else H0 x) = _
    rw [if_neg (by omega)]
theorem S.freezeT {k : Kd} {d : D} {v : V} (s : S H0 HF H σ env ((k, d, v) :: ts) fe ft) : ∃ H0' ft', Ex H0 H0' ∧ S H0' HF H σ env ((.z, d, v) :: ts) fe ft' := by
  obtain ⟨f1, f2, h1, h2, h3⟩ := s.tmp
  obtain ⟨H0', e0, c1, c2, c3, c4, c5⟩ := s.frz0 (f := f1) fun x => by rw [h3]; omega
  refine ⟨H0', f2, e0, c2, s.frm, c3, c4, s.re.mono e0 fun _ _ _ q => q, ⟨_, f2, Rk.z (h1.freeze e0 c1), h2.mono e0 fun _ _ _ q => q, fun x => by omega⟩, fun x => ?_, fun x hx => ?_, fun x hx => ?_⟩
  · have := s.uniq x; have := h3 x; omega
  · have := s.uniq x; have := h3 x
    rw [c5 x (by omega)]; exact s.s0 x (by omega)
  · have := h3 x; exact s.sF x (by omega)
/-- the slot i is frozen where it stands -/
theorem S.freezeE {i : Nat} {k : Kd} {d : D} (s : S H0 HF H σ env ts fe ft) (hi : env[i]? = some (.val k d)) : ∃ H0' fe' v, Ex H0 H0' ∧ σ[i]? = some (some v) ∧ Rf H0' d v ∧ S H0' HF H σ (env.set i (.val .z d)) ts fe' ft := by
  obtain ⟨o, f1, f2, h1, ⟨v, rfl, h2⟩, h3, h4⟩ := s.re.take hi
  obtain ⟨H0', e0, c1, c2, c3, c4, c5⟩ := s.frz0 (f := f1) fun x => by rw [h4]; omega
  have hl : i < env.length := (List.getElem?_eq_some_iff.mp hi).1
  have hr : Rf H0' d v := h2.freeze e0 c1
  have q := (h3.mono e0 (H' := H) fun _ _ _ q => q).fill' (i := i) (s := .val .z d) (o := some v) (by simp [hl]) h1 ⟨v, rfl, Rk.z hr⟩
  rw [set_set'] at q
  refine ⟨H0', f2, v, e0, h1, hr, c2, s.frm, c3, c4, q.ext fun x => by omega, s.tmp.mono e0 fun _ _ _ q => q, fun x => ?_, fun x hx => ?_, fun x hx => ?_⟩
  · have := s.uniq x; have := h4 x; omega
  · have := s.uniq x; have := h4 x
    rw [c5 x (by omega)]; exact s.s0 x (by omega)
  · have := h4 x; exact s.sF x (by omega)
/-- the slot's data moved out to a temporary; the slot is unknown from then on -/
theorem S.takeE {i : Nat} {k : Kd} {d : D} (s : S H0 HF H σ env ts fe ft) (hi : env[i]? = some (.val k d)) : ∃ fe' ft' v, σ[i]? = some (some v) ∧ S H0 HF H σ (env.set i .un) ((k, d, v) :: ts) fe' ft' := by
  obtain ⟨o, f1, f2, h1, ⟨v, rfl, h2⟩, h3, h4⟩ := s.re.take hi
  have hl : i < env.length := (List.getElem?_eq_some_iff.mp hi).1
  refine ⟨f2, fun x => f1 x + ft x, v, h1, s.sub, s.frm, s.imm, s.dis, h3, ⟨f1, ft, h2, s.tmp, fun _ => rfl⟩, fun x => ?_, fun x hx => ?_, fun x hx => ?_⟩
  · have := s.uniq x; have := h4 x; omega
  · have := h4 x; exact s.s0 x (by omega)
  · have := h4 x; exact s.sF x (by omega)
/-- .. and a temporary back into an unknown slot that still holds the value -/
theorem S.backE {i : Nat} {k : Kd} {d : D} {v : V} (s : S H0 HF H σ env ((k, d, v) :: ts) fe ft) (hi : env[i]? = some .un) (hv : σ[i]? = some (some v)) : ∃ fe' ft', S H0 HF H σ (env.set i (.val k d)) ts fe' ft' := by
  obtain ⟨f1, f2, h2, h3, h4⟩ := s.tmp
  have hl : i < env.length := (List.getElem?_eq_some_iff.mp hi).1
  refine ⟨fun x => f1 x + fe x, f2, s.sub, s.frm, s.imm, s.dis, s.re.fill' hi hv ⟨v, rfl, h2⟩, h3, fun x => ?_, fun x hx => ?_, fun x hx => ?_⟩
  · have := s.uniq x; have := h4 x; omega
  · have := h4 x; exact s.s0 x (by omega)
  · have := h4 x; exact s.sF x (by omega)

abbrev Env.put (env : Env) (i : Nat) (s : Sl) : Env := env.set i s
/-- an entry that owns nothing -/
def Sl.zero : Sl → Bool
  | .val k _ => k.isZ
  | _ => true
theorem RkS.zero {s : Sl} {o : Option V} {f : Fp} (h : RkS H0 H s o f) (hz : s.zero = true) : ∀ x, f x = 0 := by
  cases s with
  | val k d =>
    have e : k = .z := by cases k <;> simp [Sl.zero, Kd.isZ] at hz ⊢
    subst e
    obtain ⟨v, _, h2⟩ := h
    exact (Rk.z_iff.mp h2).2
  | un => exact h
/-- a slot is stored -/
theorem S.store {i : Nat} {k : Kd} {d : D} {v : V} (s : S H0 HF H σ env ((k, d, v) :: ts) fe ft) : ∃ fe' ft', S H0 HF H (σ.set i (some v)) (env.put i (.val k d)) ts fe' ft' ∧ (k = .z → (∀ s, env[i]? = some s → s.zero = true) → ∀ x, fe' x = fe x) := by
  obtain ⟨f1, f2, h2, h3, h4⟩ := s.tmp
  by_cases hi : i < env.length
  · obtain ⟨o, g1, g2, a, b, c, e⟩ := s.re.take (i := i) (s := env[i]) (by simp [hi])
    have q := c.fill (i := i) (s := .val k d) (o := some v) (g := f1) (by simp [hi]) ⟨v, rfl, h2⟩
    rw [set_set'] at q
    refine ⟨_, f2, ⟨s.sub, s.frm, s.imm, s.dis, q, h3, fun x => ?_, fun x hx => ?_, fun x hx => ?_⟩, fun hk hz x => ?_⟩
    · have := s.uniq x; have := h4 x; have := e x; omega
    · have := h4 x; have := e x; exact s.s0 x (by omega)
    · have := h4 x; have := e x; exact s.sF x (by omega)
    · subst hk
      have z1 := (Rk.z_iff.mp h2).2 x
      have z2 := b.zero (hz _ (by simp [hi])) x
      have := e x
      omega
  · have e1 : σ.set i (some v) = σ := List.set_eq_of_length_le (by rw [s.re.length]; omega)
    have e2 : env.put i (.val k d) = env := List.set_eq_of_length_le (by omega)
    rw [e1, e2]
    refine ⟨fe, f2, ⟨s.sub, s.frm, s.imm, s.dis, s.re, h3, fun x => ?_, fun x hx => ?_, fun x hx => ?_⟩, fun _ _ _ => rfl⟩
    · have := s.uniq x; have := h4 x; omega
    · have := h4 x; exact s.s0 x (by omega)
    · have := h4 x; exact s.sF x (by omega)
theorem S.len (s : S H0 HF H σ env ts fe ft) : σ.length = env.length := s.re.length
end
end Vt

set_option Elab.async false
set_option linter.all false
set_option autoImplicit false
set_option maxRecDepth 100000
set_option maxHeartbeats 1000000
/-! Vt3: what expressions, tests, statements mean over plain data; how a reading of the layer is shown by that. -/
namespace Vt
open PySem L2

/-- a read value: borrowed or not, its kind, its data -/
abbrev Pv := Bool × Kd × D
abbrev PX := Env → Option Pv
def tmOf (v : Pv) (u : V) : List Tm := if v.1 = true then [] else [(v.2.1, v.2.2, u)]
def tmsOf : List Pv → List V → List Tm
  | v :: vs, u :: us => tmOf v u ++ tmsOf vs us
  | _, _ => []
def RV (H0 H : Hp) (fe : Fp) (v : Pv) (u : V) : Prop := ∃ fb, Rk H0 H v.2.2 v.2.1 u fb ∧ (v.1 = true → ∀ x, fb x ≤ fe x)
def RVs (H0 H : Hp) (fe : Fp) : List Pv → List V → Prop
  | [], us => us = []
  | v :: vs, us => ∃ u r, us = u :: r ∧ RV H0 H fe v u ∧ RVs H0 H fe vs r
section
variable {H0 H H0' H' HF : Hp} {fe ft : Fp} {σ : L2.St} {env : Env} {ts : List Tm}
theorem RV.mono {v : Pv} {u : V} (e0 : Ex H0 H0') (e : Ex H H') (h : RV H0 H fe v u) : RV H0' H' fe v u := by
  obtain ⟨fb, h1, h2⟩ := h
  exact ⟨fb, h1.mono e0 fun x o _ q => e x o q, h2⟩
theorem RVs.mono (e0 : Ex H0 H0') (e : Ex H H') : ∀ {vs : List Pv} {us : List V}, RVs H0 H fe vs us → RVs H0' H' fe vs us
  | [], _, h => h
  | v :: vs, _, h => by
    obtain ⟨u, r, h1, h2, h3⟩ := h
    exact ⟨u, r, h1, h2.mono e0 e, RVs.mono e0 e h3⟩
theorem RV.rf {v : Pv} {u : V} (h : RV H0 H fe v u) (e : Ex H0 H) : Rf H v.2.2 u := h.choose_spec.1.rf e
theorem RV.ofTop {v : Pv} {u : V} (hb : v.1 = false) (s : S H0 HF H σ env (tmOf v u ++ ts) fe ft) : RV H0 H fe v u := by
  obtain ⟨b, k, d⟩ := v
  dsimp only at hb
  subst hb
  obtain ⟨f1, f2, h1, _⟩ := s.tmp
  exact ⟨f1, h1, fun q => nomatch q⟩
end

/-- what is to be shown behind a pure expression -/
def KP (H0 HF H : Hp) (σ : L2.St) (env : Env) (ts : List Tm) (fe : Fp) (v : Pv) (Q : VK) : Prop :=
  ∀ H' H0' u ft', Ex H0 H0' → Ex H H' → S H0' HF H' σ env (tmOf v u ++ ts) fe ft' → RV H0' H' fe v u → Q u H'
def tP (p : PX) : TE := fun σ H Q => ∃ H0 HF env ts fe ft v, S H0 HF H σ env ts fe ft ∧ p env = some v ∧ KP H0 HF H σ env ts fe v Q
def tPA (p : Env → Option (List Pv)) : TA := fun σ H Q => ∃ H0 HF env ts fe ft vs, S H0 HF H σ env ts fe ft ∧ p env = some vs ∧
  ∀ H' H0' us ft', Ex H0 H0' → Ex H H' → S H0' HF H' σ env (tmsOf vs us ++ ts) fe ft' → RVs H0' H' fe vs us → Q us H'
def tPT (p : Env → Option Bool) : TT := fun σ H Q => ∃ H0 HF env ts fe ft b, S H0 HF H σ env ts fe ft ∧ p env = some b ∧
  ∀ H' H0' ft', Ex H0 H0' → Ex H H' → S H0' HF H' σ env ts fe ft' → Q b H'

inductive Res (α : Type) where
  | ok (a : α) (e : Env) | exc (C : Addr) (x : D) (e : Env) | bad
abbrev Mv := Kd × D
abbrev MX (α : Type) := Env → Res α
inductive SR where
  | nx (e : Env) | rt (v : Mv) (e : Env) | bk (e : Env) | ct (e : Env) | exc (C : Addr) (x : D) (e : Env) | bad
abbrev SX := Env → SR

/-- an error that flies: its class, its own dict -/
def Xr (H0 : Hp) (x : D) (d : Addr) : Prop := ∃ v, H0 d = some (.xd [("value", v)]) ∧ Rf H0 x v
def KX (H0 HF : Hp) (σ : L2.St) (ts : List Tm) (E : XK) (C : Addr) (x : D) (env : Env) : Prop :=
  ∀ d H' H0' fe' ft', Ex H0 H0' → S H0' HF H' σ env ts fe' ft' → Xr H0' x d → E (.ref C) (some d) H'
def tM (E : XK) (m : MX Mv) : TE := fun σ H Q => ∃ H0 HF env ts fe ft, S H0 HF H σ env ts fe ft ∧ match m env with
  | .ok v env' => ∀ H' H0' u fe' ft', Ex H0 H0' → S H0' HF H' σ env' ((v.1, v.2, u) :: ts) fe' ft' → Q u H'
  | .exc C x env' => KX H0 HF σ ts E C x env'
  | .bad => False
def zipT : List Mv → List V → List Tm
  | v :: vs, u :: us => (v.1, v.2, u) :: zipT vs us
  | _, _ => []
def tMA (E : XK) (m : MX (List Mv)) : TA := fun σ H Q => ∃ H0 HF env ts fe ft, S H0 HF H σ env ts fe ft ∧ match m env with
  | .ok vs env' => ∀ H' H0' us fe' ft', Ex H0 H0' → us.length = vs.length → S H0' HF H' σ env' (zipT vs us ++ ts) fe' ft' → Q us H'
  | .exc C x env' => KX H0 HF σ ts E C x env'
  | .bad => False
def tMT (E : XK) (m : MX Bool) : TT := fun σ H Q => ∃ H0 HF env ts fe ft, S H0 HF H σ env ts fe ft ∧ match m env with
  | .ok b env' => ∀ H' H0' fe' ft', Ex H0 H0' → S H0' HF H' σ env' ts fe' ft' → Q b H'
  | .exc C x env' => KX H0 HF σ ts E C x env'
  | .bad => False
def Pin (pd : List Nat) (σ σ' : L2.St) : Prop := ∀ i ∈ pd, σ'[i]? = σ[i]?
theorem Pin.refl {pd : List Nat} {σ : L2.St} : Pin pd σ σ := fun _ _ => rfl
theorem Pin.trans {pd : List Nat} {σ σ1 σ2 : L2.St} (a : Pin pd σ σ1) (b : Pin pd σ1 σ2) : Pin pd σ σ2 := fun i h => (b i h).trans (a i h)
theorem Pin.set {pd : List Nat} {σ : L2.St} {i : Nat} {o : Option V} (h : pd.contains i = false) : Pin pd σ (σ.set i o) := fun j hj => by
  have : j ≠ i := fun e => by subst e; simp [hj] at h
  rw [List.getElem?_set_ne (Ne.symm this)]
def KS (H0 HF : Hp) (pd : List Nat) (σ : L2.St) (ts : List Tm) (env : Env) (K : L2.St → Hp → Prop) : Prop :=
  ∀ σ' H' H0' fe' ft', Ex H0 H0' → Pin pd σ σ' → S H0' HF H' σ' env ts fe' ft' → K σ' H'
def KR (H0 HF : Hp) (pd : List Nat) (σ : L2.St) (ts : List Tm) (v : Mv) (env : Env) (K : VK) : Prop :=
  ∀ σ' H' H0' u fe' ft', Ex H0 H0' → Pin pd σ σ' → S H0' HF H' σ' env ((v.1, v.2, u) :: ts) fe' ft' → K u H'
def KXS (H0 HF : Hp) (pd : List Nat) (σ : L2.St) (ts : List Tm) (E : XK) (C : Addr) (x : D) (env : Env) : Prop :=
  ∀ d σ' H' H0' fe' ft', Ex H0 H0' → Pin pd σ σ' → S H0' HF H' σ' env ts fe' ft' → Xr H0' x d → E (.ref C) (some d) H'
def KSR (H0 HF : Hp) (pd : List Nat) (σ : L2.St) (ts : List Tm) (E : XK) (D : Ends) : SR → Prop
  | .nx e => KS H0 HF pd σ ts e D.nx
  | .rt v e => KR H0 HF pd σ ts v e D.rt
  | .bk e => KS H0 HF pd σ ts e D.bk
  | .ct e => KS H0 HF pd σ ts e D.ct
  | .exc C x e => KXS H0 HF pd σ ts E C x e
  | .bad => False
def tS (E : XK) (pd : List Nat) (m : SX) : TS := fun D σ H => ∃ H0 HF env ts fe ft, S H0 HF H σ env ts fe ft ∧ KSR H0 HF pd σ ts E D (m env)

section
variable {X : Cx} {e : Expr}
theorem pe_mono {t t' : TE} (h : PE X e t) (k : ∀ σ H Q, t' σ H Q → t σ H Q) : PE X e t' := ⟨fun pins s σ H Q I q => h.run pins s σ H Q I (k _ _ _ q)⟩
theorem pt_mono {t t' : TT} (h : PT X e t) (k : ∀ σ H Q, t' σ H Q → t σ H Q) : PT X e t' := ⟨fun pins s σ H Q I q => h.run pins s σ H Q I (k _ _ _ q)⟩
theorem pw_mono {t t' : TT} (h : PW X e t) (k : ∀ σ H Q, t' σ H Q → t σ H Q) : PW X e t' := ⟨fun w pins s σ H Q I q => h.run w pins s σ H Q I (k _ _ _ q)⟩
theorem pa_mono {es : List Expr} {t t' : TA} (h : PA X es t) (k : ∀ σ H Q, t' σ H Q → t σ H Q) : PA X es t' := ⟨fun p pins s σ H Q I q => h.run p pins s σ H Q I (k _ _ _ q)⟩
theorem ps_mono {st : Stmt} {t t' : TS} (h : PS X st t) (k : ∀ D σ H, t' D σ H → t D σ H) : PS X st t' := ⟨fun pins s σ H D I q => h.run pins s σ H D I (k _ _ _ q)⟩
theorem pss_mono {st : List Stmt} {t t' : TS} (h : PSs X st t) (k : ∀ D σ H, t' D σ H → t D σ H) : PSs X st t' := ⟨fun pins s σ H D I q => h.run pins s σ H D I (k _ _ _ q)⟩
end
/-- a reading t is shown by the pure p -/
def ShP (t : TE) (p : PX) : Prop := ∀ {σ H Q}, tP p σ H Q → t σ H Q
def ShM (E : XK) (t : TE) (m : MX Mv) : Prop := ∀ {σ H Q}, tM E m σ H Q → t σ H Q

/-! ### pure expressions -/
def pC (d : D) : PX := fun _ => some (false, .z, d)
def pVar (i : Nat) : PX := fun env => match env[i]? with
  | some (.val k d) => some (!k.isZ, k, d)
  | _ => none
def Flat0 (H : Hp) (d : D) (v : V) : Prop := Rf H d v
section
variable {X : Cx} {e a b : Expr} {pos : Pos}
theorem KP.z {H0 HF H : Hp} {σ : L2.St} {env : Env} {ts : List Tm} {fe ft : Fp} {d : D} {u : V} {Q : VK} (k : KP H0 HF H σ env ts fe (false, .z, d) Q) (s : S H0 HF H σ env ts fe ft) (h : Rf H0 d u) : Q u H :=
  k H H0 u ft (Ex.refl _) (Ex.refl _) (s.pushZ h) ⟨_, Rk.z h, fun q => nomatch q⟩
theorem pe_C {d : D} {v : V} (h : PE X e (tC v)) (r : ∀ H, Rf H d v) : PE X e (tP (pC d)) := pe_mono h fun σ H Q q => by
  obtain ⟨H0, HF, env, ts, fe, ft, w, s, hp, k⟩ := q
  cases hp
  exact k.z s (r H0)
theorem pv_int {i : Int} {j : Nat} : PE X (.Constant (.int i) j pos) (tP (pC (.int i))) := pe_C pe_int fun _ => rfl
theorem pv_bl {b : Bool} {j : Nat} : PE X (.Constant (.bool b) j pos) (tP (pC (.bl b))) := pe_C pe_bl fun _ => rfl
theorem pv_non {j : Nat} : PE X (.Constant .none j pos) (tP (pC .non)) := pe_C pe_non fun _ => rfl
theorem pv_str {x : Str} {j : Nat} : PE X (.Constant (.str x) j pos) (tP (pC (.str x))) := pe_C pe_str fun _ => rfl
theorem RkE.get {H0 H : Hp} {env : Env} {σ : L2.St} {f : Fp} {i : Nat} {k : Kd} {d : D} (h : RkE H0 H env σ f) (e : env[i]? = some (.val k d)) : ∃ v f1, σ[i]? = some (some v) ∧ Rk H0 H d k v f1 ∧ ∀ x, f1 x ≤ f x := by
  obtain ⟨o, f1, f2, h1, ⟨v, rfl, h2⟩, _, h4⟩ := h.take e
  exact ⟨v, f1, h1, h2, fun x => by rw [h4]; omega⟩
theorem pv_var (i : Nat) (h : PE X e (tVar i)) : PE X e (tP (pVar i)) := pe_mono h fun σ H Q q => by
  obtain ⟨H0, HF, env, ts, fe, ft, w, s, hp, k⟩ := q
  unfold pVar at hp
  split at hp
  · rename_i kk d he
    cases hp
    obtain ⟨v, f1, h1, h2, h3⟩ := s.re.get he
    refine ⟨v, h1, ?_⟩
    cases hz : kk.isZ with
    | true =>
      have e : kk = .z := by cases kk <;> simp [Kd.isZ] at hz ⊢
      subst e
      exact k.z s (Rk.z_iff.mp h2).1
    | false =>
      refine k H H0 v ft (Ex.refl _) (Ex.refl _) ?_ ⟨f1, h2, fun _ => h3⟩
      simp only [tmOf, hz, Bool.not_false, if_true, List.nil_append]
      exact s
  · cases hp

def g1 (g : Pv → Option Pv) : List Pv → Option Pv
  | [a] => g a
  | _ => none
def g2 (g : Pv → Pv → Option Pv) : List Pv → Option Pv
  | [a, b] => g a b
  | _ => none
def r1 (r : V → Hp → VK → Prop) : List V → Hp → VK → Prop := fun us H Q => ∃ x, us = [x] ∧ r x H Q
def r2 (r : R2) : List V → Hp → VK → Prop := fun us H Q => ∃ x y, us = [x, y] ∧ r x y H Q
structure PrOk (g : List Pv → Option Pv) (r : List V → Hp → VK → Prop) : Prop where
  ok : ∀ {H0 HF H : Hp} {σ : L2.St} {env : Env} {ts : List Tm} {fe ft : Fp} {vs : List Pv} {us : List V} {v : Pv}, S H0 HF H σ env ts fe ft → RVs H0 H fe vs us → g vs = some v → ∀ Q : VK, KP H0 HF H σ env ts fe v Q → r us H Q
def pOp1 (g : Pv → Option Pv) (p : PX) : PX := fun env => (p env).bind g
def pOp2 (g : Pv → Pv → Option Pv) (p q : PX) : PX := fun env => (p env).bind fun a => (q env).bind fun b => g a b
def pOpN (g : List Pv → Option Pv) (p : Env → Option (List Pv)) : PX := fun env => (p env).bind g
def pNil : Env → Option (List Pv) := fun _ => some []
def pCons (p : PX) (ps : Env → Option (List Pv)) : Env → Option (List Pv) := fun env => (p env).bind fun a => (ps env).bind fun as => some (a :: as)
theorem KP.drop {H0 HF H H0' H' : Hp} {σ : L2.St} {env : Env} {ts : List Tm} {fe : Fp} {v : Pv} {Q : VK} (k : KP H0 HF H σ env ts fe v Q) (e0 : Ex H0 H0') (e : Ex H H') : KP H0' HF H' σ env ts fe v Q :=
  fun H2 H02 u ft2 a b s r => k H2 H02 u ft2 (e0.trans a) (e.trans b) s r
theorem sh_op1 {g : Pv → Option Pv} {r : V → Hp → VK → Prop} {p : PX} (h : PrOk (g1 g) (r1 r)) : ShP (tUn r (tP p)) (pOp1 g p) := by
  intro σ H Q q
  obtain ⟨H0, HF, env, ts, fe, ft, w, s, hp, k⟩ := q
  unfold pOp1 at hp
  cases ha : p env with
  | none => rw [ha] at hp; cases hp
  | some a =>
    rw [ha] at hp
    refine ⟨H0, HF, env, ts, fe, ft, a, s, ha, fun H1 H01 x ft1 e0 e s1 rx => ?_⟩
    obtain ⟨ft2, s2, _⟩ := s1.drop
    obtain ⟨x', hx, z⟩ := h.ok (vs := [a]) (us := [x]) s2 ⟨x, [], rfl, rx, rfl⟩ hp Q (k.drop e0 e)
    cases hx
    exact z
theorem sh_op2 {g : Pv → Pv → Option Pv} {r : R2} {p q : PX} (h : PrOk (g2 g) (r2 r)) : ShP (tOp r (tP p) (tP q)) (pOp2 g p q) := by
  intro σ H Q z
  obtain ⟨H0, HF, env, ts, fe, ft, w, s, hp, k⟩ := z
  unfold pOp2 at hp
  cases ha : p env with
  | none => rw [ha] at hp; cases hp
  | some a =>
    rw [ha, Option.bind_some] at hp
    cases hb : q env with
    | none => rw [hb] at hp; cases hp
    | some b =>
      rw [hb, Option.bind_some] at hp
      refine ⟨H0, HF, env, ts, fe, ft, a, s, ha, fun H1 H01 x ft1 e0 e s1 rx => ?_⟩
      refine ⟨H01, HF, env, _, fe, ft1, b, s1, hb, fun H2 H02 y ft2 e02 e2 s2 ry => ?_⟩
      rw [← List.append_assoc] at s2
      obtain ⟨ft3, s3, _⟩ := s2.drop
      obtain ⟨x', y', hxy, z⟩ := h.ok (vs := [a, b]) (us := [x, y]) s3 ⟨x, [y], rfl, rx.mono e02 e2, y, [], rfl, ry, rfl⟩ hp Q (k.drop (e0.trans e02) (e.trans e2))
      cases hxy
      exact z
theorem tmsOf_nil (vs : List Pv) : tmsOf vs [] = [] := by cases vs <;> rfl
theorem pa_pNil : PA X [] (tPA pNil) := pa_mono pa_nil fun σ H Q q => by
  obtain ⟨H0, HF, env, ts, fe, ft, w, s, hp, k⟩ := q
  cases hp
  exact k H H0 [] ft (Ex.refl _) (Ex.refl _) s rfl
theorem sh_cons {p : PX} {ps : Env → Option (List Pv)} {σ : L2.St} {H : Hp} {Q : List V → Hp → Prop} (h : tPA (pCons p ps) σ H Q) : tCons (tP p) (tPA ps) σ H Q := by
  obtain ⟨H0, HF, env, ts, fe, ft, w, s, hp, k⟩ := h
  unfold pCons at hp
  cases ha : p env with
  | none => rw [ha] at hp; cases hp
  | some a =>
    rw [ha, Option.bind_some] at hp
    cases hb : ps env with
    | none => rw [hb] at hp; cases hp
    | some bs =>
      rw [hb, Option.bind_some] at hp
      cases hp
      refine ⟨H0, HF, env, ts, fe, ft, a, s, ha, fun H1 H01 x ft1 e0 e s1 rx => ?_⟩
      refine ⟨H01, HF, env, _, fe, ft1, bs, s1, hb, fun H2 H02 ys ft2 e02 e2 s2 ry => ?_⟩
      refine k H2 H02 (x :: ys) ft2 (e0.trans e02) (e.trans e2) (s2.perm ?_) ⟨x, ys, rfl, rx.mono e02 e2, ry⟩
      show (tmsOf bs ys ++ (tmOf a x ++ ts)).Perm ((tmOf a x ++ tmsOf bs ys) ++ ts)
      rw [List.append_assoc, ← List.append_assoc, ← List.append_assoc]
      exact List.perm_append_comm.append_right ts
theorem pa_pCons {es : List Expr} {p : PX} {ps : Env → Option (List Pv)} (ha : PE X e (tP p)) (hr : PA X es (tPA ps)) (hs : starEach (e :: es) X.env = (false, eval e X.env) :: starEach es X.env := by rfl) : PA X (e :: es) (tPA (pCons p ps)) :=
  pa_mono (pa_cons ha hr hs) fun _ _ _ q => sh_cons q
/-- a rule by its values, the arguments pure -/
theorem sh_opN {g : List Pv → Option Pv} {r : List V → Hp → VK → Prop} {p : Env → Option (List Pv)} (h : PrOk g r) : ShP (tCB r (tPA p)) (pOpN g p) := by
  intro σ H Q z
  obtain ⟨H0, HF, env, ts, fe, ft, w, s, hp, k⟩ := z
  unfold pOpN at hp
  cases ha : p env with
  | none => rw [ha] at hp; cases hp
  | some vs =>
    rw [ha, Option.bind_some] at hp
    refine ⟨H0, HF, env, ts, fe, ft, vs, s, ha, fun H1 H01 us ft1 e0 e s1 rx => ?_⟩
    obtain ⟨ft2, s2, _⟩ := s1.drop
    exact h.ok s2 rx hp Q (k.drop e0 e)
end
end Vt

set_option Elab.async false
set_option linter.all false
set_option autoImplicit false
set_option maxRecDepth 100000
set_option maxHeartbeats 1000000


/-! Vt4: the primitive operations over plain data. -/
namespace Vt
open PySem L2

theorem g1_some {g : Pv → Option Pv} : ∀ {vs : List Pv} {v : Pv}, g1 g vs = some v → ∃ a, vs = [a] ∧ g a = some v
  | [], _, h => nomatch h
  | [a], _, h => ⟨a, rfl, h⟩
  | _ :: _ :: _, _, h => nomatch h
theorem g2_some {g : Pv → Pv → Option Pv} : ∀ {vs : List Pv} {v : Pv}, g2 g vs = some v → ∃ a b, vs = [a, b] ∧ g a b = some v
  | [], _, h => nomatch h
  | [a], _, h => nomatch h
  | [a, b], _, h => ⟨a, b, rfl, h⟩
  | _ :: _ :: _ :: _, _, h => nomatch h
abbrev ret (d : D) : Option Pv := some (false, .z, d)
theorem prOk1 {g : Pv → Option Pv} {r : V → Hp → VK → Prop}
    (h : ∀ {H0 HF H : Hp} {σ : L2.St} {env : Env} {ts : List Tm} {fe ft : Fp} {a v : Pv} {x : V} {Q : VK}, S H0 HF H σ env ts fe ft → RV H0 H fe a x → g a = some v → KP H0 HF H σ env ts fe v Q → r x H Q) : PrOk (g1 g) (r1 r) := by
  refine ⟨fun {H0 HF H σ env ts fe ft vs us v} s rv e Q k => ?_⟩
  obtain ⟨a, rfl, e⟩ := g1_some e
  · obtain ⟨x, r', rfl, rx, hr⟩ := rv
    have hr : r' = [] := hr
    subst hr
    exact ⟨x, rfl, h s rx e k⟩
theorem prOk2 {g : Pv → Pv → Option Pv} {r : R2}
    (h : ∀ {H0 HF H : Hp} {σ : L2.St} {env : Env} {ts : List Tm} {fe ft : Fp} {a b v : Pv} {x y : V} {Q : VK}, S H0 HF H σ env ts fe ft → RV H0 H fe a x → RV H0 H fe b y → g a b = some v → KP H0 HF H σ env ts fe v Q → r x y H Q) : PrOk (g2 g) (r2 r) := by
  refine ⟨fun {H0 HF H σ env ts fe ft vs us v} s rv e Q k => ?_⟩
  obtain ⟨a, b, rfl, e⟩ := g2_some e
  · obtain ⟨x, r', rfl, rx, y, r'', rfl, ry, hr⟩ := rv
    have hr : r'' = [] := hr
    subst hr
    exact ⟨x, y, rfl, h s rx ry e k⟩

theorem prOk1' {g : Pv → Option Pv} {r : List V → Hp → VK → Prop}
    (h : ∀ {H0 HF H : Hp} {σ : L2.St} {env : Env} {ts : List Tm} {fe ft : Fp} {a v : Pv} {x : V} {Q : VK}, S H0 HF H σ env ts fe ft → RV H0 H fe a x → g a = some v → KP H0 HF H σ env ts fe v Q → r [x] H Q) : PrOk (g1 g) r := by
  refine ⟨fun {H0 HF H σ env ts fe ft vs us v} s rv e Q k => ?_⟩
  obtain ⟨a, rfl, e⟩ := g1_some e
  · obtain ⟨x, r', rfl, rx, hr⟩ := rv
    have hr : r' = [] := hr
    subst hr
    exact h s rx e k
theorem prOk2' {g : Pv → Pv → Option Pv} {r : List V → Hp → VK → Prop}
    (h : ∀ {H0 HF H : Hp} {σ : L2.St} {env : Env} {ts : List Tm} {fe ft : Fp} {a b v : Pv} {x y : V} {Q : VK}, S H0 HF H σ env ts fe ft → RV H0 H fe a x → RV H0 H fe b y → g a b = some v → KP H0 HF H σ env ts fe v Q → r [x, y] H Q) : PrOk (g2 g) r := by
  refine ⟨fun {H0 HF H σ env ts fe ft vs us v} s rv e Q k => ?_⟩
  obtain ⟨a, b, rfl, e⟩ := g2_some e
  · obtain ⟨x, r', rfl, rx, y, r'', rfl, ry, hr⟩ := rv
    have hr : r'' = [] := hr
    subst hr
    exact h s rx ry e k

/-! ### ints -/
def gI (C : Int → Int → Bool) (f : Int → Int → D) : Pv → Pv → Option Pv
  | (_, _, .int i), (_, _, .int j) => if C i j = true then ret (f i j) else none
  | _, _ => none
def gI0 (f : Int → Int → D) : Pv → Pv → Option Pv
  | (_, _, .int i), (_, _, .int j) => ret (f i j)
  | _, _ => none
theorem ok_gI {C : Int → Int → Bool} {C' : Int → Int → Prop} {f : Int → Int → D} {g : Int → Int → V} (hc : ∀ i j, C i j = true → C' i j) (hf : ∀ H i j, Rf H (f i j) (g i j)) : PrOk (g2 (gI C f)) (r2 (rI C' g)) := by
  refine prOk2 fun {H0 HF H σ env ts fe ft a b v x y Q} s rx ry e k => ?_
  obtain ⟨b1, k1, d1⟩ := a
  obtain ⟨b2, k2, d2⟩ := b
  unfold gI at e
  split at e
  · rename_i _ _ i _ _ j h1 h2
    cases h1; cases h2
    split at e
    · rename_i hC
      cases e
      have e1 : x = .int i := rx.rf s.sub
      have e2 : y = .int j := ry.rf s.sub
      exact ⟨i, j, e1, e2, hc i j hC, k.z s (hf H0 i j)⟩
    · cases e
  · cases e
theorem ok_gI0 {f : Int → Int → D} {g : Int → Int → V} (hf : ∀ H i j, Rf H (f i j) (g i j)) : PrOk (g2 (gI0 f)) (r2 (rI0 g)) := by
  refine prOk2 fun {H0 HF H σ env ts fe ft a b v x y Q} s rx ry e k => ?_
  obtain ⟨b1, k1, d1⟩ := a
  obtain ⟨b2, k2, d2⟩ := b
  unfold gI0 at e
  split at e
  · rename_i _ _ i _ _ j h1 h2
    cases h1; cases h2
    cases e
    have e1 : x = .int i := rx.rf s.sub
    have e2 : y = .int j := ry.rf s.sub
    exact ⟨i, j, e1, e2, k.z s (hf H0 i j)⟩
  · cases e
def mulOk (i j : Int) : Bool := decide (i.natAbs.log2 + j.natAbs.log2 < 100000000)
def CMulX (i j : Int) : Prop := i.natAbs.log2 + j.natAbs.log2 < 100000000
theorem CMulX.ok {i j : Int} (h : CMulX i j) : IntMulOk i j := by
  have b : ∀ x : Int, Builtin.Int.intBits x ≤ x.natAbs.log2 + 1 := fun x => by
    unfold Builtin.Int.intBits
    split <;> omega
  have h1 := b i
  have h2 := b j
  have h3 : i.natAbs.log2 + j.natAbs.log2 < 100000000 := h
  have e : bitsLine = 134217728 := by decide
  unfold IntMulOk
  intro z
  rw [Bool.and_eq_true] at z
  have z2 := z.2
  unfold Builtin.Int.intTooBig at z2
  have z3 := of_decide_eq_true z2
  rw [e] at z3
  omega
theorem op_mulX {X : Cx} : OpR X (binaryOp .Mult) (rI CMulX fun i j => .int (i * j)) := opI fun _ _ _ _ _ _ _ hc q => PyProof.Rows.mul_int q hc.ok
def divOk (_ j : Int) : Bool := decide (0 < j) && decide (j.natAbs.log2 < 9000)
def modOk (_ j : Int) : Bool := decide (0 < j)
def powOk (i j : Int) : Bool := decide (0 ≤ j) && decide (j ≤ 1000000) && decide (i.natAbs < 2 ^ 64)
def shrOk (_ j : Int) : Bool := decide (0 ≤ j)
abbrev gAdd := gI0 fun i j => .int (i + j)
abbrev gSub' := gI0 fun i j => .int (i - j)
abbrev gMul := gI mulOk fun i j => .int (i * j)
abbrev gDiv := gI divOk fun i j => .int (i / j)
abbrev gMod := gI modOk fun i j => .int (i % j)
abbrev gPow := gI powOk fun i j => .int (i ^ j.toNat)
abbrev gShl := gI powOk fun i j => .int (i * 2 ^ j.toNat)
abbrev gShr := gI shrOk fun i j => .int (i / 2 ^ j.toNat)
abbrev gBand := gI0 fun i j => .int (Builtin.bitAnd i j)
abbrev gBor := gI0 fun i j => .int (Builtin.bitOr i j)
abbrev gLt := gI0 fun i j => .bl (decide (i < j))
abbrev gLe := gI0 fun i j => .bl (decide (i ≤ j))
abbrev gGt := gI0 fun i j => .bl (decide (j < i))
abbrev gGe := gI0 fun i j => .bl (decide (j ≤ i))
section
variable {X : Cx}
theorem ok_add : PrOk (g2 gAdd) (r2 (rI0 fun i j => .int (i + j))) := by
  refine ok_gI0 ?_
  intro _ _ _
  rfl
theorem ok_sub : PrOk (g2 gSub') (r2 (rI0 fun i j => .int (i - j))) := by
  refine ok_gI0 ?_
  intro _ _ _
  rfl
theorem ok_mul : PrOk (g2 gMul) (r2 (rI CMulX fun i j => .int (i * j))) := by
  refine ok_gI ?_ ?_
  · intro i j h
    exact (of_decide_eq_true h : i.natAbs.log2 + j.natAbs.log2 < 100000000)
  · intro _ _ _
    rfl
theorem ok_div : PrOk (g2 gDiv) (r2 (rI CDivW fun i j => .int (i / j))) := by
  refine ok_gI ?_ ?_
  · intro _ _ h
    simp only [divOk, Bool.and_eq_true, decide_eq_true_eq] at h
    exact h
  · intro _ _ _
    rfl
theorem ok_mod : PrOk (g2 gMod) (r2 (rI (fun _ j => 0 < j) fun i j => .int (i % j))) := by
  refine ok_gI ?_ ?_
  · intro _ _ h
    exact of_decide_eq_true h
  · intro _ _ _
    rfl
theorem ok_pow : PrOk (g2 gPow) (r2 (rI CPow fun i j => .int (i ^ j.toNat))) := by
  refine ok_gI ?_ ?_
  · intro _ _ h
    simp only [powOk, Bool.and_eq_true, decide_eq_true_eq] at h
    exact ⟨h.1.1, h.1.2, h.2⟩
  · intro _ _ _
    rfl
theorem ok_shl : PrOk (g2 gShl) (r2 (rI CPow fun i j => .int (i * 2 ^ j.toNat))) := by
  refine ok_gI ?_ ?_
  · intro _ _ h
    simp only [powOk, Bool.and_eq_true, decide_eq_true_eq] at h
    exact ⟨h.1.1, h.1.2, h.2⟩
  · intro _ _ _
    rfl
theorem ok_shr : PrOk (g2 gShr) (r2 (rI (fun _ j => 0 ≤ j) fun i j => .int (i / 2 ^ j.toNat))) := by
  refine ok_gI ?_ ?_
  · intro _ _ h
    exact of_decide_eq_true h
  · intro _ _ _
    rfl
theorem ok_band : PrOk (g2 gBand) (r2 (rI0 fun i j => .int (Builtin.bitAnd i j))) := by
  refine ok_gI0 ?_
  intro _ _ _
  rfl
theorem ok_bor : PrOk (g2 gBor) (r2 (rI0 fun i j => .int (Builtin.bitOr i j))) := by
  refine ok_gI0 ?_
  intro _ _ _
  rfl
theorem ok_lt : PrOk (g2 gLt) (r2 (rI0 fun i j => .bl (decide (i < j)))) := by
  refine ok_gI0 ?_
  intro _ _ _
  rfl
theorem ok_le : PrOk (g2 gLe) (r2 (rI0 fun i j => .bl (decide (i ≤ j)))) := by
  refine ok_gI0 ?_
  intro _ _ _
  rfl
theorem ok_gt : PrOk (g2 gGt) (r2 (rI0 fun i j => .bl (decide (j < i)))) := by
  refine ok_gI0 ?_
  intro _ _ _
  rfl
theorem ok_ge : PrOk (g2 gGe) (r2 (rI0 fun i j => .bl (decide (j ≤ i)))) := by
  refine ok_gI0 ?_
  intro _ _ _
  rfl
end
def gU (f : Int → Int) : Pv → Option Pv
  | (_, _, .int i) => ret (.int (f i))
  | _ => none
abbrev gNeg := gU fun i => -i
theorem ok_gU {f : Int → Int} : PrOk (g1 (gU f)) (r1 (rU fun i => .int (f i))) := by
  refine prOk1 fun {H0 HF H σ env ts fe ft a v x Q} s rx e k => ?_
  obtain ⟨b1, k1, d1⟩ := a
  unfold gU at e
  split at e
  · rename_i _ _ i h1
    cases h1; cases e
    have e1 : x = .int i := rx.rf s.sub
    exact ⟨i, e1, k.z s rfl⟩
  · cases e
theorem ok_neg : PrOk (g1 gNeg) (r1 (rU fun i => .int (-i))) := ok_gU

/-! ### None -/
def gIsN (neg : Bool) : Pv → Pv → Option Pv
  | (_, _, d), (_, _, .non) => match d with
    | .non => ret (.bl (!neg))
    | _ => ret (.bl neg)
  | _, _ => none
theorem Rf.non_iff {H : Hp} {d : D} {v : V} (h : Rf H d v) : v = .non ↔ d = .non := by
  cases d with
  | non => exact ⟨fun _ => rfl, fun _ => h⟩
  | bl b => cases (show v = _ from h); simp
  | int b => cases (show v = _ from h); simp
  | str b => cases (show v = _ from h); simp
  | nd s xs =>
    obtain ⟨a, dx, vs, rfl, _⟩ := h
    simp
theorem ok_isN : PrOk (g2 (gIsN false)) (r2 fun x y H Q => y = .non ∧ Q (.bl (decide (x = .non))) H) := by
  refine prOk2 fun {H0 HF H σ env ts fe ft a b v x y Q} s rx ry e k => ?_
  obtain ⟨b1, k1, d1⟩ := a
  obtain ⟨b2, k2, d2⟩ := b
  have hx := rx.rf s.sub
  unfold gIsN at e
  split at e
  · rename_i h1 h2
    cases h1; cases h2
    refine ⟨ry.rf s.sub, ?_⟩
    by_cases hn : d1 = .non
    · subst hn
      cases e
      rw [decide_eq_true (hx.non_iff.mpr rfl)]
      exact k.z s rfl
    · rw [decide_eq_false fun q => hn (hx.non_iff.mp q)]
      cases d1 <;> first | exact absurd rfl hn | (cases e; exact k.z s rfl)
  · cases e
theorem ok_notN : PrOk (g2 (gIsN true)) (r2 fun x y H Q => y = .non ∧ Q (.bl (!decide (x = .non))) H) := by
  refine prOk2 fun {H0 HF H σ env ts fe ft a b v x y Q} s rx ry e k => ?_
  obtain ⟨b1, k1, d1⟩ := a
  obtain ⟨b2, k2, d2⟩ := b
  have hx := rx.rf s.sub
  unfold gIsN at e
  split at e
  · rename_i h1 h2
    cases h1; cases h2
    refine ⟨ry.rf s.sub, ?_⟩
    by_cases hn : d1 = .non
    · subst hn
      cases e
      rw [decide_eq_true (hx.non_iff.mpr rfl)]
      exact k.z s rfl
    · rw [decide_eq_false fun q => hn (hx.non_iff.mp q)]
      cases d1 <;> first | exact absurd rfl hn | (cases e; exact k.z s rfl)
  · cases e

/-! ### data as the library's data: ==, < -/
mutual
def D.py : D → PyData
  | .non => .none
  | .bl b => .bool b
  | .int i => .int i
  | .str x => .str x
  | .nd .tup xs => .tuple (D.pys xs)
  | .nd _ xs => .list (D.pys xs)
def D.pys : List D → List PyData
  | [] => []
  | d :: ds => d.py :: D.pys ds
end
mutual
/-- lists and tuples of plain things -/
def D.isPy : D → Bool
  | .nd .tup xs => D.isPys xs
  | .nd .lst xs => D.isPys xs
  | .nd .scr xs => D.isPys xs
  | .nd _ _ => false
  | _ => true
def D.isPys : List D → Bool
  | [] => true
  | d :: ds => d.isPy && D.isPys ds
end
mutual
theorem Rf.dp {K : PySem.W.Frag} {H : Hp} : ∀ {d : D} {v : V}, Rf H d v → d.isPy = true → Dp K H v d.py
  | .non, _, h, _ => by cases (show _ = V.non from h); exact .non
  | .bl b, _, h, _ => by cases (show _ = V.bl b from h); exact .bl b
  | .int b, _, h, _ => by cases (show _ = V.int b from h); exact .int b
  | .str b, _, h, _ => by cases (show _ = V.str b from h); exact .str b
  | .nd .tup xs, v, h, p => by
    obtain ⟨a, dx, vs, rfl, h2, _, h4⟩ := h
    exact .tup (.inl (.inl h2)) (RfL.dp h4 p)
  | .nd .lst xs, v, h, p => by
    obtain ⟨a, dx, vs, rfl, h2, _, h4⟩ := h
    exact .lst (.inl (.inl h2)) (RfL.dp h4 p)
  | .nd .scr xs, v, h, p => by
    obtain ⟨a, dx, vs, rfl, ⟨o, h2⟩, _, h4⟩ := h
    exact .lst (.inl (.inr ⟨o, h2⟩)) (RfL.dp h4 p)
  | .nd (.dK _) xs, v, h, p => by cases p
  | .nd (.dT _) xs, v, h, p => by cases p
  | .nd (.obj _ _) xs, v, h, p => by cases p
theorem RfL.dp {K : PySem.W.Frag} {H : Hp} : ∀ {ds : List D} {vs : List V}, RfL H ds vs → D.isPys ds = true → DpAll K H vs (D.pys ds)
  | [], _, h, _ => by cases (show _ = [] from h); exact .nil
  | d :: ds, vs, h, p => by
    obtain ⟨u, us, rfl, h2, h3⟩ := h
    simp only [D.isPys, Bool.and_eq_true] at p
    exact .cons (Rf.dp h2 p.1) (RfL.dp h3 p.2)
end
def D.okE (d : D) : Bool := d.isPy && SeqAt.shaped d.py
def D.eqb (d e : D) : Bool := PyData.eqv d.py e.py
def gEq (neg : Bool) : Pv → Pv → Option Pv
  | (_, _, d), (_, _, e) => if d.okE && e.okE then ret (.bl (if neg then !d.eqb e else d.eqb e)) else none
theorem ok_eq {K : PySem.W.Frag} : PrOk (g2 (gEq false)) (r2 (rEqD K)) := by
  refine prOk2 fun {H0 HF H σ env ts fe ft a b v x y Q} s rx ry e k => ?_
  obtain ⟨b1, k1, d1⟩ := a
  obtain ⟨b2, k2, d2⟩ := b
  by_cases h : (d1.okE && d2.okE) = true
  · simp only [gEq, if_pos h] at e
    simp only [D.okE, Bool.and_eq_true] at h
    cases e
    exact ⟨_, _, (rx.rf s.sub).dp h.1.1, (ry.rf s.sub).dp h.2.1, h.1.2, h.2.2, k.z s rfl⟩
  · simp only [gEq, if_neg h] at e
    cases e
theorem ok_ne {K : PySem.W.Frag} : PrOk (g2 (gEq true)) (r2 (rNeD K)) := by
  refine prOk2 fun {H0 HF H σ env ts fe ft a b v x y Q} s rx ry e k => ?_
  obtain ⟨b1, k1, d1⟩ := a
  obtain ⟨b2, k2, d2⟩ := b
  by_cases h : (d1.okE && d2.okE) = true
  · simp only [gEq, if_pos h] at e
    simp only [D.okE, Bool.and_eq_true] at h
    cases e
    exact ⟨_, _, (rx.rf s.sub).dp h.1.1, (ry.rf s.sub).dp h.2.1, h.1.2, h.2.2, k.z s rfl⟩
  · simp only [gEq, if_neg h] at e
    cases e

/-! ### lists and tuples that are read -/
def D.seq : D → Option (List D)
  | .nd .lst xs => some xs
  | .nd .tup xs => some xs
  | .nd .scr xs => some xs
  | _ => none
theorem Rf.seq {K : PySem.W.Frag} {H : Hp} {d : D} {v : V} {xs : List D} (h : Rf H d v) (e : d.seq = some xs) : ∃ a vs, v = .ref a ∧ (SqL K H a vs ∨ SqT K H a vs) ∧ RfL H xs vs := by
  unfold D.seq at e
  split at e
  · cases e; obtain ⟨a, dx, vs, rfl, h2, _, h4⟩ := h; exact ⟨a, vs, rfl, .inl (.inl (.inl h2)), h4⟩
  · cases e; obtain ⟨a, dx, vs, rfl, h2, _, h4⟩ := h; exact ⟨a, vs, rfl, .inr (.inl (.inl h2)), h4⟩
  · cases e; obtain ⟨a, dx, vs, rfl, ⟨o, h2⟩, _, h4⟩ := h; exact ⟨a, vs, rfl, .inl (.inl (.inr ⟨o, h2⟩)), h4⟩
  · cases e
def gLen : Pv → Option Pv
  | (_, _, d) => match d.seq with
    | some xs => ret (.int xs.length)
    | none => none
theorem ok_len {K : PySem.W.Frag} : PrOk (g1 gLen) (fun xs H Q => ∃ p ys, xs = [.ref p] ∧ (SqL K H p ys ∨ SqT K H p ys) ∧ Q (.int ys.length) H) := by
  refine prOk1' fun {H0 HF H σ env ts fe ft a v x Q} s rx e k => ?_
  obtain ⟨b1, k1, d1⟩ := a
  simp only [gLen] at e
  split at e
  · rename_i xs hs
    cases e
    obtain ⟨a, vs, h1, h2, h3⟩ := (rx.rf s.sub).seq (K := K) hs
    refine ⟨a, vs, by rw [h1], h2, ?_⟩
    rw [RfL.length h3]
    exact k.z s rfl
  · cases e

/-- the children of a node, all frozen -/
def Kd.zs (k : Kd) (n : Nat) : Bool := match k with
  | .z => true
  | .all k => k.isZ
  | .each ks => (List.range n).all fun i => (ks.getD i .z).isZ
theorem isZ_eq {k : Kd} (h : k.isZ = true) : k = .z := by cases k <;> simp [Kd.isZ] at h ⊢
theorem Kd.zs_kid {k : Kd} {n : Nat} (h : k.zs n = true) : ∀ i, i < n → k.kid i = .z := by
  intro i hi
  cases k with
  | z => rfl
  | all k => exact isZ_eq h
  | each ks =>
    simp only [Kd.zs, List.all_eq_true, List.mem_range] at h
    exact isZ_eq (h i hi)
/-- what a node's children are worth, each with its kind, by place -/
theorem Rk.kids {H0 H : Hp} (e0 : Ex H0 H) {s : Sh} {xs : List D} {k : Kd} {v : V} {f : Fp} (h : Rk H0 H (.nd s xs) k v f) : ∃ a dx vs g, v = .ref a ∧ s.std H a dx vs ∧ RkL H0 H xs k.kid vs g ∧ ∀ x, g x ≤ f x := by
  cases hk : k.isZ with
  | true =>
    have := isZ_eq hk
    subst this
    obtain ⟨h, hf⟩ := Rk.z_iff.mp h
    obtain ⟨a, dx, vs, h1, h2, _, h4⟩ := h
    exact ⟨a, dx, vs, _, h1, Sh.std_mono e0 h2, RkL.z h4, fun x => Nat.zero_le _⟩
  | false =>
    obtain ⟨a, dx, vs, g, h1, h2, h3, h4⟩ := (Rk.nd_iff hk).mp h
    refine ⟨a, dx, vs, g, h1, ?_, h4, fun x => ?_⟩
    · split at h2
      · exact Sh.std_mono e0 h2.1
      · rename_i ht; exact Sh.std_of (by simpa using ht) h2.1
    · split at h2
      · rw [h2.2]; exact Nat.le_refl _
      · rw [h2.2]; omega
/-- .. all frozen -/
theorem RV.elems {H0 H : Hp} {fe : Fp} (e0 : Ex H0 H) {b : Bool} {s : Sh} {xs : List D} {k : Kd} {u : V} (h : RV H0 H fe (b, k, .nd s xs) u) (hz : k.zs xs.length = true) : ∃ a dx vs, u = .ref a ∧ s.std H a dx vs ∧ RfL H0 xs vs := by
  obtain ⟨fb, h1, _⟩ := h
  obtain ⟨a, dx, vs, g, h2, h3, h4, _⟩ := Rk.kids e0 h1
  exact ⟨a, dx, vs, h2, h3, (RkL.of_z (Kd.zs_kid hz) h4).1⟩
theorem RV.elemsSeq {K : PySem.W.Frag} {H0 H : Hp} {fe : Fp} (e0 : Ex H0 H) {b : Bool} {d : D} {xs : List D} {k : Kd} {u : V} (h : RV H0 H fe (b, k, d) u) (hs : d.seq = some xs) (hz : k.zs xs.length = true) : ∃ a vs, u = .ref a ∧ (SqL K H a vs ∨ SqT K H a vs) ∧ RfL H0 xs vs := by
  unfold D.seq at hs
  split at hs
  · cases hs; obtain ⟨a, dx, vs, h1, h2, h3⟩ := h.elems e0 hz; exact ⟨a, vs, h1, .inl (.inl (.inl h2)), h3⟩
  · cases hs; obtain ⟨a, dx, vs, h1, h2, h3⟩ := h.elems e0 hz; exact ⟨a, vs, h1, .inr (.inl (.inl h2)), h3⟩
  · cases hs; obtain ⟨a, dx, vs, h1, ⟨o, h2⟩, h3⟩ := h.elems e0 hz; exact ⟨a, vs, h1, .inl (.inl (.inr ⟨o, h2⟩)), h3⟩
  · cases hs
/-- an item, by a place of any sign -/
def gIx : Pv → Pv → Option Pv
  | (b, k, .nd s xs), (_, _, .int i) => if (D.nd s xs).seq.isNone then none else match ixN xs.length i with
    | some j => match xs[j]? with
      | some d => let c := k.kid j
        if c.isZ then ret d else if b then some (true, c, d) else none
      | none => none
    | none => none
  | _, _ => none
theorem SqLT_at {α : Type} {xs : List α} {i : Int} {j : Nat} {v : α} (h : ixN xs.length i = some j) (e : xs[j]? = some v) : atI xs i = some v := by
  unfold atI; rw [h]; exact e
theorem ok_ix {K : PySem.W.Frag} : PrOk (g2 gIx) (r2 (fun x y H Q => rIxL K x y H Q ∨ rIxT K x y H Q ∨ rIxS x y H Q)) := by
  refine prOk2 fun {H0 HF H σ env ts fe ft a b v x y Q} s rx ry e k => ?_
  obtain ⟨b1, k1, d1⟩ := a
  obtain ⟨b2, k2, d2⟩ := b
  unfold gIx at e
  split at e
  · rename_i _ bb kk sh xs _ _ i h1 h2
    cases h1; cases h2
    have ey : y = .int i := ry.rf s.sub
    split at e
    · cases e
    · rename_i hseq
      cases hj : ixN xs.length i with
      | none => rw [hj] at e; cases e
      | some j =>
        rw [hj] at e
        dsimp only at e
        cases hd : xs[j]? with
        | none => rw [hd] at e; cases e
        | some d =>
          rw [hd] at e
          dsimp only at e
          obtain ⟨fb, q1, q2⟩ := rx
          obtain ⟨a, dx, vs, g, h3, h4, h5, h6⟩ := Rk.kids s.sub q1
          obtain ⟨w, f1, h7, h8, h9⟩ := RkL.get h5 hd
          have hl : vs.length = xs.length := RkL.length h5
          have hat : atI vs i = some w := SqLT_at (by rw [hl]; exact hj) h7
          have hQ : Q w H := by
            split at e
            · rename_i hz
              cases e
              rw [isZ_eq hz] at h8
              exact k.z s (Rk.z_iff.mp h8).1
            · rename_i hz
              split at e
              · rename_i hb
                cases e
                refine k H H0 w ft (Ex.refl _) (Ex.refl _) s ⟨f1, h8, fun _ x => Nat.le_trans (h9 x) (Nat.le_trans (h6 x) (q2 hb x))⟩
              · cases e
          cases sh with
          | lst => exact .inl ⟨a, vs, i, w, h3, ey, .inl (.inl h4), hat, hQ⟩
          | tup => exact .inr (.inl ⟨a, vs, i, w, h3, ey, .inl (.inl h4), hat, hQ⟩)
          | scr => obtain ⟨o, h4⟩ := h4; exact .inl ⟨a, vs, i, w, h3, ey, .inl (.inr ⟨o, h4⟩), hat, hQ⟩
          | dK ks => simp [D.seq] at hseq
          | dT ks => simp [D.seq] at hseq
          | obj C ns => simp [D.seq] at hseq
  · cases e

/-! ### new lists -/
theorem KP.newL {H0 HF H : Hp} {σ : L2.St} {env : Env} {ts : List Tm} {fe ft : Fp} {xs : List D} {vs : List V} {Q : VK} (k : KP H0 HF H σ env ts fe (false, .all .z, .nd .lst xs) Q) (s : S H0 HF H σ env ts fe ft) (h : RfL H0 xs vs) {p : Addr} (hp : H p = none) : Q (.ref p) (upd H p (.lst vs)) := by
  have s1 := s.allocM (o := .lst vs) hp trivial
  have hk : Rk H0 (upd H p (.lst vs)) (.nd .lst xs) (.all .z) (.ref p) (fun x => 0 + one p x) :=
    (Rk.nd_iff rfl).mpr ⟨p, 0, vs, fun _ => 0, rfl, by rw [if_neg (by decide)]; exact ⟨upd_same, fun _ => rfl⟩, trivial, RkL.z h⟩
  have s2 := s1.pushO (cs := []) (p := p) (d := .nd .lst xs) (k := .all .z) (s.sub.none hp) (s.frm.none hp) (s.free hp) fun g hg => hk.ext fun x => by rw [hg x]
  exact k _ H0 (.ref p) _ (Ex.refl _) (Ex.new hp) s2 ⟨_, hk, fun q => nomatch q⟩
def zlist (xs : List D) : Option Pv := some (false, .all .z, .nd .lst xs)
def gCat : Pv → Pv → Option Pv
  | (_, k, .nd .lst xs), (_, l, .nd .lst ys) => if k.zs xs.length && l.zs ys.length && decide (xs.length + ys.length ≤ 100000) then zlist (xs ++ ys) else none
  | _, _ => none
theorem le_line {n : Nat} (h : n ≤ 100000) : n ≤ sizeLine := Nat.le_trans h (by decide)
theorem ok_cat : PrOk (g2 gCat) (r2 rCat) := by
  refine prOk2 fun {H0 HF H σ env ts fe ft a b v x y Q} s rx ry e k => ?_
  obtain ⟨b1, k1, d1⟩ := a
  obtain ⟨b2, k2, d2⟩ := b
  unfold gCat at e
  split at e
  · rename_i _ bb kk xs _ ll ys h1 h2
    cases h1; cases h2
    split at e
    · rename_i h
      simp only [Bool.and_eq_true, decide_eq_true_eq] at h
      cases e
      obtain ⟨a, dx, vs, e1, e2, e3⟩ := rx.elems s.sub h.1.1
      obtain ⟨a', dx', vs', e1', e2', e3'⟩ := ry.elems s.sub h.1.2
      refine ⟨a, a', vs, vs', e1, e1', e2, e2', ?_, fun p hp => k.newL s (e3.append e3') hp⟩
      rw [e3.length, e3'.length]
      exact le_line h.2
    · cases e
  · cases e
/-- list(xs) -/
def gList : Pv → Option Pv
  | (_, k, d) => match d.seq with
    | some xs => if k.zs xs.length then zlist xs else none
    | none => none
theorem ok_list {K : PySem.W.Frag} : PrOk (g1 gList) (fun xs H Q => ∃ p ys, xs = [.ref p] ∧ (SqL K H p ys ∨ SqT K H p ys) ∧ ∀ l, H l = none → Q (.ref l) (upd H l (.lst ys))) := by
  refine prOk1' fun {H0 HF H σ env ts fe ft a v x Q} s rx e k => ?_
  obtain ⟨b1, k1, d1⟩ := a
  simp only [gList] at e
  split at e
  · rename_i xs hs
    split at e
    · rename_i hz
      cases e
      obtain ⟨a, vs, h1, h2, h3⟩ := rx.elemsSeq (K := K) s.sub hs hz
      exact ⟨a, vs, by rw [h1], h2, fun l hl => k.newL s h3 hl⟩
    · cases e
  · cases e
/-- a new tuple -/
theorem KP.newT {H0 HF H : Hp} {σ : L2.St} {env : Env} {ts : List Tm} {fe ft : Fp} {xs : List D} {vs : List V} {Q : VK} (k : KP H0 HF H σ env ts fe (false, .z, .nd .tup xs) Q) (s : S H0 HF H σ env ts fe ft) (h : RfL H0 xs vs) {p : Addr} (hp : H p = none) : Q (.ref p) (upd H p (.tup vs)) := by
  have s1 := s.allocZ (o := .tup vs) hp
  have e0 : Ex H0 (upd H0 p (.tup vs)) := Ex.new (s.sub.none hp)
  have hr : Rf (upd H0 p (.tup vs)) (.nd .tup xs) (.ref p) := ⟨p, 0, vs, rfl, upd_same, trivial, h.mono e0⟩
  exact k _ _ (.ref p) ft e0 (Ex.new hp) (s1.pushZ hr) ⟨_, Rk.z hr, fun q => nomatch q⟩
/-- tuple(xs) -/
def gTuple : Pv → Option Pv
  | (_, k, .nd .lst xs) => if k.zs xs.length then ret (.nd .tup xs) else none
  | (_, .z, .nd .tup xs) => ret (.nd .tup xs)
  | _ => none
theorem ok_tuple {K : PySem.W.Frag} : PrOk (g1 gTuple) (fun xs H Q => ∃ p ys, xs = [.ref p] ∧ ((SqL K H p ys ∧ ∀ l, H l = none → Q (.ref l) (upd H l (.tup ys))) ∨ (SqT K H p ys ∧ Q (.ref p) H))) := by
  refine prOk1' fun {H0 HF H σ env ts fe ft a v x Q} s rx e k => ?_
  obtain ⟨b1, k1, d1⟩ := a
  unfold gTuple at e
  split at e
  · rename_i h1
    cases h1
    split at e
    · rename_i hz
      cases e
      obtain ⟨a, dx, vs, h1, h2, h3⟩ := rx.elems s.sub hz
      exact ⟨a, vs, by rw [h1], .inl ⟨.inl (.inl h2), fun l hl => k.newT s h3 hl⟩⟩
    · cases e
  · rename_i h1
    cases h1
    cases e
    obtain ⟨fb, q1, q2⟩ := rx
    have hr := (Rk.z_iff.mp q1).1
    obtain ⟨a, dx, vs, rfl, h2, h3, h4⟩ := id hr
    exact ⟨a, vs, rfl, .inr ⟨.inl (.inl (s.sub _ _ h2)), k.z s hr⟩⟩
  · cases e
/-- [a, b, ..]: all frozen -/
def zitems : List Pv → Option (List D)
  | [] => some []
  | (_, .z, d) :: vs => (zitems vs).map fun ds => d :: ds
  | _ => none
theorem RVs.zitems {H0 H : Hp} {fe : Fp} : ∀ {vs : List Pv} {us : List V} {ds : List D}, RVs H0 H fe vs us → zitems vs = some ds → RfL H0 ds us
  | [], _, _, h, e => by cases e; exact h
  | (b, .z, d) :: vs, us, ds, h, e => by
    obtain ⟨u, r, rfl, h2, h3⟩ := h
    simp only [Vt.zitems, Option.map_eq_some_iff] at e
    obtain ⟨ds', e1, rfl⟩ := e
    exact .cons (Rk.z_iff.mp h2.choose_spec.1).1 (RVs.zitems h3 e1)
  | (b, .all _, d) :: vs, us, ds, h, e => by cases e
  | (b, .each _, d) :: vs, us, ds, h, e => by cases e
def gLst (vs : List Pv) : Option Pv := match zitems vs with
  | some ds => if ds.length ≤ 100000 then zlist ds else none
  | none => none
theorem ok_lst : PrOk gLst (fun xs H Q => xs.length ≤ sizeLine ∧ ∀ p, H p = none → Q (.ref p) (upd H p (.lst xs))) := by
  refine ⟨fun {H0 HF H σ env ts fe ft vs us v} s rv e Q k => ?_⟩
  unfold gLst at e
  split at e
  · rename_i ds hz
    split at e
    · rename_i hl
      cases e
      have h := rv.zitems hz
      exact ⟨by rw [h.length]; exact le_line hl, fun p hp => k.newL s h hp⟩
    · cases e
  · cases e
def gTup (vs : List Pv) : Option Pv := match zitems vs with
  | some ds => if ds.length ≤ 100000 then ret (.nd .tup ds) else none
  | none => none
theorem ok_tup : PrOk gTup (fun xs H Q => xs.length ≤ sizeLine ∧ ∀ p, H p = none → Q (.ref p) (upd H p (.tup xs))) := by
  refine ⟨fun {H0 HF H σ env ts fe ft vs us v} s rv e Q k => ?_⟩
  unfold gTup at e
  split at e
  · rename_i ds hz
    split at e
    · rename_i hl
      cases e
      have h := rv.zitems hz
      exact ⟨by rw [h.length]; exact le_line hl, fun p hp => k.newT s h hp⟩
    · cases e
  · cases e
/-- a slice of a list -/
def cutD (xs : List D) (lo hi : Option Int) : List D := (xs.drop (HT.sIx xs.length 0 lo)).take (HT.sIx xs.length xs.length hi - HT.sIx xs.length 0 lo)
theorem RfL.cut {H : Hp} {xs : List D} {vs : List V} (h : RfL H xs vs) (lo hi : Option Int) : RfL H (cutD xs lo hi) (cutV vs lo hi) := by
  unfold cutD cutV
  rw [h.length]
  exact (h.drop _).take _
end Vt

set_option Elab.async false
set_option linter.all false
set_option autoImplicit false
set_option maxRecDepth 100000
set_option maxHeartbeats 1000000
/-! Vt5: rules for pure expressions and tests; targets; what is walked; comprehensions. -/
namespace Vt
open PySem L2

section
variable {X : Cx} {a b c e : Expr} {pos : Pos} {p q w : PX}
theorem pv_bin {op : Operator} {r : R2} {g : Pv → Pv → Option Pv} (ho : OpR X (binaryOp op) r) (h : PrOk (g2 g) (r2 r)) (ha : PE X a (tP p)) (hb : PE X b (tP q)) : PE X (.BinOp a op b pos) (tP (pOp2 g p q)) :=
  pe_mono (pe_op ho ha hb) fun _ _ _ z => sh_op2 h z
theorem pv_un {op : UnaryOp} {r : V → Hp → VK → Prop} {g : Pv → Option Pv} (ho : UnR X (unaryOp op) r) (h : PrOk (g1 g) (r1 r)) (ha : PE X a (tP p)) : PE X (.UnaryOp op a pos) (tP (pOp1 g p)) :=
  pe_mono (pe_un ho ha) fun _ _ _ z => sh_op1 h z
theorem pv_cmp {op : CmpOp} {r : R2} {g : Pv → Pv → Option Pv} (ho : OpR X (compareOp op) r) (h : PrOk (g2 g) (r2 r)) (ha : PE X a (tP p)) (hb : PE X b (tP q)) (hm : behindInMarks op b = false) : PE X (.Compare a [op] [b] pos) (tP (pOp2 g p q)) :=
  pe_mono (pe_cmpR ho ha hb hm) fun _ _ _ z => sh_op2 h z
theorem pv_ix (ha : PE X a (tP p)) (hb : PE X b (tP q)) (hs : PlainIx b := by intro _ _; rfl) : PE X (.Subscript a b pos) (tP (pOp2 gIx p q)) :=
  pe_mono (pe_ix ix_seq ha hb hs) fun _ _ _ z => sh_op2 ok_ix z
/-- an expression's value as a truth value that is known to be one -/
def pTst (p : PX) : Env → Option Bool := fun env => match p env with
  | some (_, _, .bl b) => some b
  | _ => none
def gTru : Pv → Option Bool
  | (_, _, .non) => some false
  | (_, _, .bl b) => some b
  | (_, _, .int i) => some (i != 0)
  | (_, _, .nd .lst xs) => some (!xs.isEmpty)
  | (_, _, .nd .tup xs) => some (!xs.isEmpty)
  | (_, _, .nd .scr xs) => some (!xs.isEmpty)
  | _ => none
def pTru (p : PX) : Env → Option Bool := fun env => (p env).bind gTru
theorem isEmpty_len {α β : Type} {xs : List α} {ys : List β} (h : xs.length = ys.length) : xs.isEmpty = ys.isEmpty := by
  cases xs <;> cases ys <;> simp at h ⊢
theorem gTru_ok {K : PySem.W.Frag} {H0 H : Hp} {fe : Fp} {v : Pv} {u : V} {k : Bool} (h : Rf H v.2.2 u) (e : gTru v = some k) : TruV K u H k := by
  obtain ⟨b, kd, d⟩ := v
  dsimp only at h
  unfold gTru at e
  split at e
  · rename_i h1; cases h1; cases e; cases (show u = _ from h); rfl
  · rename_i h1; cases h1; cases e; cases (show u = _ from h); rfl
  · rename_i h1; cases h1; cases e; cases (show u = _ from h); rfl
  · rename_i h1; cases h1; cases e
    obtain ⟨a, dx, vs, rfl, h2, _, h4⟩ := h
    exact .inl ⟨vs, .inl (.inl h2), by rw [isEmpty_len (RfL.length h4)]⟩
  · rename_i h1; cases h1; cases e
    obtain ⟨a, dx, vs, rfl, h2, _, h4⟩ := h
    exact .inr (.inl ⟨vs, .inl (.inl h2), by rw [isEmpty_len (RfL.length h4)]⟩)
  · rename_i h1; cases h1; cases e
    obtain ⟨a, dx, vs, rfl, ⟨o, h2⟩, _, h4⟩ := h
    exact .inl ⟨vs, .inl (.inr ⟨o, h2⟩), by rw [isEmpty_len (RfL.length h4)]⟩
  · cases e
theorem S.popP {H0 HF H : Hp} {σ : L2.St} {env : Env} {ts : List Tm} {fe ft : Fp} {v : Pv} {u : V} (s : S H0 HF H σ env (tmOf v u ++ ts) fe ft) : ∃ ft', S H0 HF H σ env ts fe ft' :=
  let ⟨ft', s', _⟩ := s.drop
  ⟨ft', s'⟩
theorem ptv_truth (ha : PE X a (tP p)) (he : ∀ whole, isTrue a X.env whole = (do let v ← whole; standAt a.pos; holding [v] (truthy v)) := by intro _; rfl) : PT X a (tPT (pTru p)) :=
  pt_mono (pt_truth ha he) fun σ H Q z => by
    obtain ⟨H0, HF, env, ts, fe, ft, k, s, hp, kk⟩ := z
    unfold pTru at hp
    cases ha : p env with
    | none => rw [ha] at hp; cases hp
    | some v =>
      rw [ha, Option.bind_some] at hp
      refine ⟨H0, HF, env, ts, fe, ft, v, s, ha, fun H1 H01 x ft1 e0 e s1 rx => ⟨k, gTru_ok (H0 := H01) (fe := fe) (rx.rf s1.sub) hp, ?_⟩⟩
      obtain ⟨ft2, s2⟩ := s1.popP
      exact kk _ _ _ e0 e s2
theorem ptv_cmp {op : CmpOp} {r : R2} {g : Pv → Pv → Option Pv} (ho : OpR X (compareOp op) r) (h : PrOk (g2 g) (r2 r)) (ha : PE X a (tP p)) (hb : PE X b (tP q)) (hm : behindInMarks op b = false) : PT X (.Compare a [op] [b] pos) (tPT (pTst (pOp2 g p q))) :=
  pt_mono (pt_cmpR ho ha hb hm) fun σ H Q z => by
    obtain ⟨H0, HF, env, ts, fe, ft, k, s, hp, kk⟩ := z
    unfold pTst at hp
    split at hp
    · rename_i bb kd b' hv
      cases hp
      refine sh_op2 h ⟨H0, HF, env, ts, fe, ft, _, s, hv, fun H1 H01 x ft1 e0 e s1 rx => ⟨_, rx.rf s1.sub, ?_⟩⟩
      obtain ⟨ft2, s2⟩ := s1.popP
      exact kk _ _ _ e0 e s2
    · cases hp
def pAnd (p q : Env → Option Bool) : Env → Option Bool := fun env => match p env with
  | some true => q env
  | some false => some false
  | none => none
def pOr (p q : Env → Option Bool) : Env → Option Bool := fun env => match p env with
  | some true => some true
  | some false => q env
  | none => none
def pNot (p : Env → Option Bool) : Env → Option Bool := fun env => (p env).map (!·)
variable {t u : Env → Option Bool} {rest : List Expr}
theorem sh_and {σ : L2.St} {H : Hp} {Q : Bool → Hp → Prop} (z : tPT (pAnd t u) σ H Q) : tAnd (tPT t) (tPT u) σ H Q := by
  obtain ⟨H0, HF, env, ts, fe, ft, k, s, hp, kk⟩ := z
  unfold pAnd at hp
  split at hp
  · rename_i h1
    refine ⟨H0, HF, env, ts, fe, ft, true, s, h1, fun H1 H01 ft1 e0 e s1 => ?_⟩
    refine iteT ?_
    exact ⟨H01, HF, env, ts, fe, ft1, k, s1, hp, fun H2 H02 ft2 a b s2 => kk _ _ _ (e0.trans a) (e.trans b) s2⟩
  · rename_i h1
    cases hp
    refine ⟨H0, HF, env, ts, fe, ft, false, s, h1, fun H1 H01 ft1 e0 e s1 => ?_⟩
    refine iteF ?_
    exact kk _ _ _ e0 e s1
  · cases hp
theorem sh_or {σ : L2.St} {H : Hp} {Q : Bool → Hp → Prop} (z : tPT (pOr t u) σ H Q) : tOr (tPT t) (tPT u) σ H Q := by
  obtain ⟨H0, HF, env, ts, fe, ft, k, s, hp, kk⟩ := z
  unfold pOr at hp
  split at hp
  · rename_i h1
    cases hp
    refine ⟨H0, HF, env, ts, fe, ft, true, s, h1, fun H1 H01 ft1 e0 e s1 => ?_⟩
    refine iteT ?_
    exact kk _ _ _ e0 e s1
  · rename_i h1
    refine ⟨H0, HF, env, ts, fe, ft, false, s, h1, fun H1 H01 ft1 e0 e s1 => ?_⟩
    refine iteF ?_
    exact ⟨H01, HF, env, ts, fe, ft1, k, s1, hp, fun H2 H02 ft2 a b s2 => kk _ _ _ (e0.trans a) (e.trans b) s2⟩
  · cases hp
theorem ptw_and1 (ha : PT X a (tPT t)) : PW X (.BoolOp .And [a] pos) (tPT t) := pw_and1 ha
theorem ptw_or1 (ha : PT X a (tPT t)) : PW X (.BoolOp .Or [a] pos) (tPT t) := pw_or1 ha
theorem ptw_and (ha : PT X a (tPT t)) (hb : PW X (.BoolOp .And (b :: rest) pos) (tPT u)) : PW X (.BoolOp .And (a :: b :: rest) pos) (tPT (pAnd t u)) := pw_mono (pw_and ha hb) fun _ _ _ z => sh_and z
theorem ptw_or (ha : PT X a (tPT t)) (hb : PW X (.BoolOp .Or (b :: rest) pos) (tPT u)) : PW X (.BoolOp .Or (a :: b :: rest) pos) (tPT (pOr t u)) := pw_mono (pw_or ha hb) fun _ _ _ z => sh_or z
theorem ptv_not (ha : PT X a (tPT t)) : PT X (.UnaryOp .Not a pos) (tPT (pNot t)) := pt_mono (pt_not ha) fun σ H Q z => by
  obtain ⟨H0, HF, env, ts, fe, ft, k, s, hp, kk⟩ := z
  unfold pNot at hp
  cases h : t env with
  | none => rw [h] at hp; cases hp
  | some b =>
    rw [h] at hp
    cases hp
    exact ⟨H0, HF, env, ts, fe, ft, b, s, h, kk⟩
/-- as values -/
def pAndV (p q : PX) : PX := fun env => match p env with
  | some (_, _, .bl true) => q env
  | some (_, _, .bl false) => ret (.bl false)
  | _ => none
def pOrV (p q : PX) : PX := fun env => match p env with
  | some (_, _, .bl true) => ret (.bl true)
  | some (_, _, .bl false) => q env
  | _ => none
def pNotV (p : PX) : PX := fun env => match p env with
  | some (_, _, .bl b) => ret (.bl (!b))
  | _ => none
def pIf (t : Env → Option Bool) (p q : PX) : PX := fun env => match t env with
  | some true => p env
  | some false => q env
  | none => none
theorem KP.at {H0 HF H H0' H' : Hp} {σ : L2.St} {env : Env} {ts : List Tm} {fe ft : Fp} {v : Pv} {Q : VK} (k : KP H0 HF H σ env ts fe v Q) (e0 : Ex H0 H0') (e : Ex H H') {p : PX} (s : S H0' HF H' σ env ts fe ft) (hp : p env = some v) : tP p σ H' Q :=
  ⟨H0', HF, env, ts, fe, ft, v, s, hp, k.drop e0 e⟩
theorem pv_and (ha : PE X a (tP p)) (hb : PE X (.BoolOp .And (b :: rest) pos) (tP q)) : PE X (.BoolOp .And (a :: b :: rest) pos) (tP (pAndV p q)) := pe_mono (pe_and ha hb) fun σ H Q z => by
  obtain ⟨H0, HF, env, ts, fe, ft, v, s, hp, k⟩ := z
  unfold pAndV at hp
  split at hp
  · rename_i h1
    refine ⟨H0, HF, env, ts, fe, ft, _, s, h1, fun H1 H01 x ft1 e0 e s1 rx => ⟨true, rx.rf s1.sub, ?_⟩⟩
    refine iteT ?_
    obtain ⟨ft2, s2⟩ := s1.popP
    exact k.at e0 e s2 hp
  · rename_i h1
    cases hp
    refine ⟨H0, HF, env, ts, fe, ft, _, s, h1, fun H1 H01 x ft1 e0 e s1 rx => ⟨false, rx.rf s1.sub, ?_⟩⟩
    refine iteF ?_
    obtain ⟨ft2, s2⟩ := s1.popP
    exact (k.drop e0 e).z s2 rfl
  · cases hp
theorem pv_or (ha : PE X a (tP p)) (hb : PE X (.BoolOp .Or (b :: rest) pos) (tP q)) : PE X (.BoolOp .Or (a :: b :: rest) pos) (tP (pOrV p q)) := pe_mono (pe_or ha hb) fun σ H Q z => by
  obtain ⟨H0, HF, env, ts, fe, ft, v, s, hp, k⟩ := z
  unfold pOrV at hp
  split at hp
  · rename_i h1
    cases hp
    refine ⟨H0, HF, env, ts, fe, ft, _, s, h1, fun H1 H01 x ft1 e0 e s1 rx => ⟨true, rx.rf s1.sub, ?_⟩⟩
    refine iteT ?_
    obtain ⟨ft2, s2⟩ := s1.popP
    exact (k.drop e0 e).z s2 rfl
  · rename_i h1
    refine ⟨H0, HF, env, ts, fe, ft, _, s, h1, fun H1 H01 x ft1 e0 e s1 rx => ⟨false, rx.rf s1.sub, ?_⟩⟩
    refine iteF ?_
    obtain ⟨ft2, s2⟩ := s1.popP
    exact k.at e0 e s2 hp
  · cases hp
theorem pv_one {op : BoolOp} (h : PE X a (tP p)) : PE X (.BoolOp op [a] pos) (tP p) := pe_one h
theorem pv_not (ha : PE X a (tP p)) : PE X (.UnaryOp .Not a pos) (tP (pNotV p)) := pe_mono (pe_not ha) fun σ H Q z => by
  obtain ⟨H0, HF, env, ts, fe, ft, v, s, hp, k⟩ := z
  unfold pNotV at hp
  split at hp
  · rename_i h1
    cases hp
    refine ⟨H0, HF, env, ts, fe, ft, _, s, h1, fun H1 H01 x ft1 e0 e s1 rx => ⟨_, rx.rf s1.sub, ?_⟩⟩
    obtain ⟨ft2, s2⟩ := s1.popP
    exact (k.drop e0 e).z s2 rfl
  · cases hp
theorem pv_if {tt : Expr} (ht : PT X tt (tPT t)) (ha : PE X a (tP p)) (hb : PE X b (tP q)) : PE X (.IfExp tt a b pos) (tP (pIf t p q)) := pe_mono (pe_ifExp ht ha hb) fun σ H Q z => by
  obtain ⟨H0, HF, env, ts, fe, ft, v, s, hp, k⟩ := z
  unfold pIf at hp
  split at hp
  · rename_i h1
    refine ⟨H0, HF, env, ts, fe, ft, true, s, h1, fun H1 H01 ft1 e0 e s1 => ?_⟩
    refine iteT ?_
    exact k.at e0 e s1 hp
  · rename_i h1
    refine ⟨H0, HF, env, ts, fe, ft, false, s, h1, fun H1 H01 ft1 e0 e s1 => ?_⟩
    refine iteF ?_
    exact k.at e0 e s1 hp
  · cases hp
/-- a op b op' c, b asked once -/
def pChain (g g' : Pv → Pv → Option Pv) (p q w : PX) : PX := fun env => match p env, q env with
  | some x, some y => match g x y with
    | some (_, _, .bl true) => (w env).bind fun z => g' y z
    | some (_, _, .bl false) => ret (.bl false)
    | _ => none
  | _, _ => none

/-- a built-in function, a built-in class, called with pure arguments -/
theorem pv_callB {x : Str} {pp : Pos} {es : List Expr} {id : String} {g : List Pv → Option Pv} {r : List V → Hp → VK → Prop} {ps : Env → Option (List Pv)} (hc : CallR X (.builtin id) r) (h : PrOk g r) (hg : Gl X x) (hm : X.mg x = none) (hv : bootBuiltins x = some (.builtin id)) (ha : PA X (e :: es) (tPA ps)) (hn : x ≠ "__name__" := by decide) (hdb : (x == ("__debug__" : Str)) = false := by decide)
    (he : starEach (e :: es) X.env = (false, eval e X.env) :: starEach es X.env := by rfl) (hpl : (backTo pos (starEach es X.env)).any (·.1) = false := by rfl) : PE X (.Call (.Name x pp) (e :: es) [] pos) (tP (pOpN g ps)) :=
  pe_mono (pe_callB hc hg hm hv ha hn hdb he hpl) fun _ _ _ z => sh_opN h z
theorem pv_callTy {x : Str} {pp : Pos} {es : List Expr} {T : String} {g : List Pv → Option Pv} {r : List V → Hp → VK → Prop} {ps : Env → Option (List Pv)} (hc : CallR X (.type T) r) (h : PrOk g r) (hg : Gl X x) (hm : X.mg x = none) (hv : bootBuiltins x = some (.type T)) (ha : PA X (e :: es) (tPA ps)) (hn : x ≠ "__name__" := by decide) (hdb : (x == ("__debug__" : Str)) = false := by decide)
    (he : starEach (e :: es) X.env = (false, eval e X.env) :: starEach es X.env := by rfl) (hpl : (backTo pos (starEach es X.env)).any (·.1) = false := by rfl) : PE X (.Call (.Name x pp) (e :: es) [] pos) (tP (pOpN g ps)) :=
  pe_mono (pe_callTy hc hg hm hv ha hn hdb he hpl) fun _ _ _ z => sh_opN h z
theorem sh_lst {ps : Env → Option (List Pv)} {σ : L2.St} {H : Hp} {Q : VK} (z : tP (pOpN gLst ps) σ H Q) : tLst (tPA ps) σ H Q := sh_opN ok_lst z
theorem sh_tup {ps : Env → Option (List Pv)} {σ : L2.St} {H : Hp} {Q : VK} (z : tP (pOpN gTup ps) σ H Q) : tTup (tPA ps) σ H Q := sh_opN ok_tup z
theorem pv_lst {es : List Expr} {ps : Env → Option (List Pv)} (h : PA X es (tPA ps)) : PE X (.List es pos) (tP (pOpN gLst ps)) := pe_mono (pe_lst h) fun _ _ _ z => sh_lst z
theorem pv_tup {es : List Expr} {x1 : Nat} {ps : Env → Option (List Pv)} {x2 : Pos} (h : PA X es (tPA ps)) (k : PE X (.Tuple es x1 x2) (tTup (tPA ps))) : PE X (.Tuple es x1 x2) (tP (pOpN gTup ps)) := pe_mono k fun _ _ _ z => sh_tup z
/-- a temporary is frozen -/
def pFz (p : PX) : PX := fun env => match p env with
  | some (false, _, d) => ret d
  | _ => none
theorem pv_fz (h : PE X e (tP p)) : PE X e (tP (pFz p)) := pe_mono h fun σ H Q z => by
  obtain ⟨H0, HF, env, ts, fe, ft, v, s, hp, k⟩ := z
  unfold pFz at hp
  split at hp
  · rename_i kd d h1
    cases hp
    refine ⟨H0, HF, env, ts, fe, ft, _, s, h1, fun H1 H01 x ft1 e0 e s1 rx => ?_⟩
    obtain ⟨H02, ft2, e02, s2⟩ := S.freezeT (k := kd) (d := d) (v := x) s1
    obtain ⟨f1, f2, q1, _⟩ := id s2.tmp
    exact k H1 H02 x ft2 (e0.trans e02) e s2 ⟨f1, q1, fun z => nomatch z⟩
  · cases hp

/-! ### slices -/
def tPO (p : Env → Option (Option Int)) : TO := fun σ H Q => ∃ H0 HF env ts fe ft o, S H0 HF H σ env ts fe ft ∧ p env = some o ∧
  ∀ H' H0' ft', Ex H0 H0' → Ex H H' → S H0' HF H' σ env ts fe ft' → Q o H'
def pNoPart : Env → Option (Option Int) := fun _ => some none
def pPart (p : PX) : Env → Option (Option Int) := fun env => match p env with
  | some (_, _, .int i) => some (some i)
  | _ => none
theorem po_mono {o : Option Expr} {t t' : TO} (h : PO X o t) (k : ∀ σ H Q, t' σ H Q → t σ H Q) : PO X o t' := ⟨fun pins s σ H Q I q => h.run pins s σ H Q I (k _ _ _ q)⟩
theorem pov_none : PO X none (tPO pNoPart) := po_mono po_none fun σ H Q z => by
  obtain ⟨H0, HF, env, ts, fe, ft, v, s, hp, k⟩ := z
  cases hp
  exact k _ _ _ (Ex.refl _) (Ex.refl _) s
theorem pov_some (h : PE X e (tP p)) : PO X (some e) (tPO (pPart p)) := po_mono (po_some h) fun σ H Q z => by
  obtain ⟨H0, HF, env, ts, fe, ft, v, s, hp, k⟩ := z
  unfold pPart at hp
  split at hp
  · rename_i i h1
    cases hp
    refine ⟨H0, HF, env, ts, fe, ft, _, s, h1, fun H1 H01 x ft1 e0 e s1 rx => ⟨i, rx.rf s1.sub, ?_⟩⟩
    obtain ⟨ft2, s2⟩ := s1.popP
    exact k _ _ _ e0 e s2
  · cases hp
/-- xs[a:b] of a list -/
def pSlice (p : PX) (l h : Env → Option (Option Int)) : PX := fun env => match p env, l env, h env with
  | some (_, k, .nd s xs), some lo, some hi => match s with
    | .lst => if k.zs xs.length then zlist (cutD xs lo hi) else none
    | .scr => if k.zs xs.length then zlist (cutD xs lo hi) else none
    | _ => none
  | _, _, _ => none
variable {pl ph : Env → Option (Option Int)} {lo hi : Option Expr} {p2 : Pos}
theorem pv_slice (ha : PE X e (tP p)) (hl : PO X lo (tPO pl)) (hh : PO X hi (tPO ph)) : PE X (.Subscript e (.Slice lo hi none p2) pos) (tP (pSlice p pl ph)) := pe_mono (pe_slice sl_list ha hl hh) fun σ H Q z => by
  obtain ⟨H0, HF, env, ts, fe, ft, v, s, hp, k⟩ := z
  unfold pSlice at hp
  split at hp
  · rename_i bb kk sh xs lo hi h1 h2 h3
    refine ⟨H0, HF, env, ts, fe, ft, _, s, h1, fun H1 H01 x ft1 e0 e s1 rx => ?_⟩
    refine ⟨H01, HF, env, _, fe, ft1, _, s1, h2, fun H2 H02 ft2 e02 e2 s2 => ?_⟩
    refine ⟨H02, HF, env, _, fe, ft2, _, s2, h3, fun H3 H03 ft3 e03 e3 s3 => ?_⟩
    obtain ⟨ft4, s4⟩ := s3.popP
    have rx' := rx.mono (e02.trans e03) (e2.trans e3)
    split at hp
    · split at hp
      · rename_i hz
        cases hp
        obtain ⟨a, dx, vs, rfl, e2, e3'⟩ := rx'.elems s4.sub hz
        exact ⟨a, vs, rfl, .inl (.inl e2), fun q hq => (k.drop (e0.trans (e02.trans e03)) (e.trans (‹Ex H1 H2›.trans e3))).newL s4 (e3'.cut lo hi) hq⟩
      · cases hp
    · split at hp
      · rename_i hz
        cases hp
        obtain ⟨a, dx, vs, rfl, ⟨o, e2⟩, e3'⟩ := rx'.elems s4.sub hz
        exact ⟨a, vs, rfl, .inl (.inr ⟨o, e2⟩), fun q hq => (k.drop (e0.trans (e02.trans e03)) (e.trans (‹Ex H1 H2›.trans e3))).newL s4 (e3'.cut lo hi) hq⟩
      · cases hp
    · cases hp
  · cases hp
end
end Vt

set_option Elab.async false
set_option linter.all false
set_option autoImplicit false
set_option maxRecDepth 100000
set_option maxHeartbeats 1000000
/-! Vt6: targets, what is walked, comprehensions of pure parts. -/
namespace Vt
open PySem L2

/-! ### targets -/
inductive Pat where
  | nm (i : Nat) | tp (ps : List Pat)
mutual
def Pat.slots : Pat → List Nat
  | .nm i => [i]
  | .tp ps => Pat.slotsL ps
def Pat.slotsL : List Pat → List Nat
  | [] => []
  | p :: ps => p.slots ++ Pat.slotsL ps
end
mutual
def bnd : Pat → D → Env → Option Env
  | .nm i, d, env => some (env.put i (.val .z d))
  | .tp ps, .nd .tup xs, env => bnds ps xs env
  | _, _, _ => none
def bnds : List Pat → List D → Env → Option Env
  | [], [], env => some env
  | p :: ps, d :: ds, env => (bnd p d env).bind fun e => bnds ps ds e
  | _, _, _ => none
end
theorem put_length {env : Env} {i : Nat} {s : Sl} : (env.put i s).length = env.length := by simp [Env.put]
theorem put_zero {env : Env} {i j : Nat} {k : Kd} {d : D} {s : Sl} (h : (env.put i (.val .z d))[j]? = some s) (hz : ∀ s, env[j]? = some s → s.zero = true) : s.zero = true := by
  unfold Env.put at h
  by_cases e : j = i
  · subst e
    rw [List.getElem?_set] at h
    split at h
    · split at h
      · cases h; rfl
      · cases h
    · exact absurd rfl ‹_›
  · rw [List.getElem?_set_ne (Ne.symm e)] at h
    exact hz s h
theorem put_keep {env : Env} {i j : Nat} {s t : Sl} (h : env[j]? = some s) (e : j ≠ i) : (env.put i t)[j]? = some s := by
  unfold Env.put
  rw [List.getElem?_set_ne (Ne.symm e), h]
mutual
theorem bnd_length : ∀ {pt : Pat} {d : D} {env env' : Env}, bnd pt d env = some env' → env'.length = env.length
  | .nm i, d, env, env', h => by cases h; exact put_length
  | .tp ps, .nd .tup xs, env, env', h => bnds_length (ps := ps) h
  | .tp ps, .non, _, _, h => by cases h
  | .tp ps, .bl _, _, _, h => by cases h
  | .tp ps, .int _, _, _, h => by cases h
  | .tp ps, .str _, _, _, h => by cases h
  | .tp ps, .nd .lst _, _, _, h => by cases h
  | .tp ps, .nd .scr _, _, _, h => by cases h
  | .tp ps, .nd (.dK _) _, _, _, h => by cases h
  | .tp ps, .nd (.dT _) _, _, _, h => by cases h
  | .tp ps, .nd (.obj _ _) _, _, _, h => by cases h
theorem bnds_length : ∀ {ps : List Pat} {ds : List D} {env env' : Env}, bnds ps ds env = some env' → env'.length = env.length
  | [], [], _, _, h => by cases h; rfl
  | p :: ps, d :: ds, env, env', h => by
    unfold bnds at h
    cases e : bnd p d env with
    | none => rw [e] at h; cases h
    | some e1 => rw [e, Option.bind_some] at h; rw [bnds_length h, bnd_length e]
  | [], _ :: _, _, _, h => by cases h
  | _ :: _, [], _, _, h => by cases h
end
mutual
theorem bnd_keep : ∀ {pt : Pat} {d : D} {env env' : Env} {j : Nat} {s : Sl}, bnd pt d env = some env' → env[j]? = some s → j ∉ pt.slots → env'[j]? = some s
  | .nm i, d, env, env', j, s, h, hj, hn => by
    cases h
    exact put_keep hj (by simpa [Pat.slots] using hn)
  | .tp ps, .nd .tup xs, env, env', j, s, h, hj, hn => bnds_keep (ps := ps) h hj hn
  | .tp ps, .non, _, _, _, _, h, _, _ => by cases h
  | .tp ps, .bl _, _, _, _, _, h, _, _ => by cases h
  | .tp ps, .int _, _, _, _, _, h, _, _ => by cases h
  | .tp ps, .str _, _, _, _, _, h, _, _ => by cases h
  | .tp ps, .nd .lst _, _, _, _, _, h, _, _ => by cases h
  | .tp ps, .nd .scr _, _, _, _, _, h, _, _ => by cases h
  | .tp ps, .nd (.dK _) _, _, _, _, _, h, _, _ => by cases h
  | .tp ps, .nd (.dT _) _, _, _, _, _, h, _, _ => by cases h
  | .tp ps, .nd (.obj _ _) _, _, _, _, _, h, _, _ => by cases h
theorem bnds_keep : ∀ {ps : List Pat} {ds : List D} {env env' : Env} {j : Nat} {s : Sl}, bnds ps ds env = some env' → env[j]? = some s → j ∉ Pat.slotsL ps → env'[j]? = some s
  | [], [], _, _, _, _, h, hj, _ => by cases h; exact hj
  | p :: ps, d :: ds, env, env', j, s, h, hj, hn => by
    unfold bnds at h
    simp only [Pat.slotsL, List.mem_append, not_or] at hn
    cases e : bnd p d env with
    | none => rw [e] at h; cases h
    | some e1 =>
      rw [e, Option.bind_some] at h
      exact bnds_keep h (bnd_keep e hj hn.1) hn.2
  | [], _ :: _, _, _, _, _, h, _, _ => by cases h
  | _ :: _, [], _, _, _, _, h, _, _ => by cases h
end
/-- what is wanted behind a store of d at the target pt -/
def tG (pt : Pat) : TG := fun v σ H Q => ∃ H0 HF env ts fe ft d env', S H0 HF H σ env ts fe ft ∧ Rf H0 d v ∧ bnd pt d env = some env' ∧
  ∀ σ' fe' ft', S H0 HF H σ' env' ts fe' ft' → (∀ i, i ∉ pt.slots → σ'[i]? = σ[i]?) → ((∀ i ∈ pt.slots, ∀ s, env[i]? = some s → s.zero = true) → (∀ x, fe' x = fe x)) → Q σ' H
def tGs (ps : List Pat) : TGs := fun vs σ H Q => ∃ H0 HF env ts fe ft ds env', S H0 HF H σ env ts fe ft ∧ RfL H0 ds vs ∧ bnds ps ds env = some env' ∧
  ∀ σ' fe' ft', S H0 HF H σ' env' ts fe' ft' → (∀ i, i ∉ Pat.slotsL ps → σ'[i]? = σ[i]?) → ((∀ i ∈ Pat.slotsL ps, ∀ s, env[i]? = some s → s.zero = true) → (∀ x, fe' x = fe x)) → Q σ' H
theorem bnd_zero : ∀ {pt : Pat} {d : D} {env env' : Env} {j : Nat} {s : Sl}, bnd pt d env = some env' → env'[j]? = some s → (∀ s, env[j]? = some s → s.zero = true) → s.zero = true := by
  intro pt
  refine Pat.rec (motive_1 := fun pt => ∀ {d : D} {env env' : Env} {j : Nat} {s : Sl}, bnd pt d env = some env' → env'[j]? = some s → (∀ s, env[j]? = some s → s.zero = true) → s.zero = true)
    (motive_2 := fun ps => ∀ {ds : List D} {env env' : Env} {j : Nat} {s : Sl}, bnds ps ds env = some env' → env'[j]? = some s → (∀ s, env[j]? = some s → s.zero = true) → s.zero = true) ?_ ?_ ?_ ?_ pt
  · intro i d env env' j s h hj hz
    cases h
    exact put_zero (k := .z) hj hz
  · intro ps ih d env env' j s h hj hz
    cases d with
    | nd sh xs => cases sh <;> first | exact ih h hj hz | cases h
    | _ => cases h
  · intro ds env env' j s h hj hz
    cases ds with
    | nil => cases h; exact hz s hj
    | cons _ _ => cases h
  · intro p ps ih1 ih2 ds env env' j s h hj hz
    cases ds with
    | nil => cases h
    | cons d ds =>
      unfold bnds at h
      cases e : bnd p d env with
      | none => rw [e] at h; cases h
      | some e1 =>
        rw [e, Option.bind_some] at h
        exact ih2 h hj fun s' hs' => ih1 e hs' hz
section
variable {X : Cx} {pos : Pos}
theorem pg_mono {e : Expr} {t t' : TG} (h : PG X e t) (k : ∀ v σ H Q, t' v σ H Q → t v σ H Q) : PG X e t' := ⟨fun pins s σ H v u Q I r q => h.run pins s σ H v u Q I r (k _ _ _ _ q)⟩
theorem pgs_mono {es : List Expr} {t t' : TGs} (h : PGs X es t) (k : ∀ v σ H Q, t' v σ H Q → t v σ H Q) : PGs X es t' := ⟨fun pins s σ H v u Q I r q => h.run pins s σ H v u Q I r (k _ _ _ _ q)⟩
theorem pgv_nm {e : Expr} (i : Nat) (h : PG X e (gName i)) : PG X e (tG (.nm i)) := pg_mono h fun v σ H Q z => by
  obtain ⟨H0, HF, env, ts, fe, ft, d, env', s, r, hb, k⟩ := z
  cases hb
  obtain ⟨fe', ft', s', hz⟩ := (s.pushZ r).store (i := i)
  exact k _ _ _ s' (fun j hj => by rw [List.getElem?_set_ne (by simpa [Pat.slots, eq_comm] using hj)]) fun q => hz rfl (q i (by simp [Pat.slots]))
theorem pgsv_nil : PGs X [] (tGs []) := pgs_mono pgs_nil fun v σ H Q z => by
  obtain ⟨H0, HF, env, ts, fe, ft, ds, env', s, r, hb, k⟩ := z
  cases ds with
  | nil => cases hb; exact ⟨r, k _ _ _ s (fun _ _ => rfl) fun _ _ => rfl⟩
  | cons _ _ => cases hb
theorem pgsv_cons {e : Expr} {es : List Expr} {p : Pat} {ps : List Pat} (h1 : PG X e (tG p)) (h2 : PGs X es (tGs ps)) (hc : PGs X (e :: es) (gCons (tG p) (tGs ps))) : PGs X (e :: es) (tGs (p :: ps)) := pgs_mono hc fun v σ H Q z => by
  obtain ⟨H0, HF, env, ts, fe, ft, ds, env', s, r, hb, k⟩ := z
  cases ds with
  | nil => cases hb
  | cons d ds =>
    unfold bnds at hb
    obtain ⟨u, us, rfl, r1, r2⟩ := r
    cases e : bnd p d env with
    | none => rw [e] at hb; cases hb
    | some e1 =>
      rw [e, Option.bind_some] at hb
      refine ⟨u, us, rfl, H0, HF, env, ts, fe, ft, d, e1, s, r1, e, fun σ1 fe1 ft1 s1 k1 z1 => ?_⟩
      refine ⟨H0, HF, e1, ts, fe1, ft1, ds, env', s1, r2, hb, fun σ2 fe2 ft2 s2 k2 z2 => ?_⟩
      refine k σ2 fe2 ft2 s2 (fun i hi => ?_) fun q x => ?_
      · simp only [Pat.slotsL, List.mem_append, not_or] at hi
        rw [k2 i hi.2, k1 i hi.1]
      · simp only [Pat.slotsL, List.mem_append] at q
        rw [z2 (fun i hi s' hs' => ?_) x, z1 (fun i hi => q i (.inl hi)) x]
        exact bnd_zero e hs' fun s'' hs'' => q i (.inr hi) s'' hs''
theorem bnds_len : ∀ {ps : List Pat} {ds : List D} {env env' : Env}, bnds ps ds env = some env' → ds.length = ps.length
  | [], [], _, _, _ => rfl
  | p :: ps, d :: ds, env, env', h => by
    unfold bnds at h
    cases e : bnd p d env with
    | none => rw [e] at h; cases h
    | some e1 => rw [e, Option.bind_some] at h; simp [bnds_len h]
  | [], _ :: _, _, _, h => by cases h
  | _ :: _, [], _, _, h => by cases h
theorem pgv_tp {K : PySem.W.Frag} {e : Expr} {ps : List Pat} (n : Nat) (hn : n = ps.length) (h : PG X e (L2.gTup K n (tGs ps))) : PG X e (tG (.tp ps)) := pg_mono h fun v σ H Q z => by
  obtain ⟨H0, HF, env, ts, fe, ft, d, env', s, r, hb, k⟩ := z
  cases d with
  | nd sh xs =>
    cases sh with
    | tup =>
      obtain ⟨a, dx, vs, rfl, h2, _, h4⟩ := r
      exact ⟨a, vs, rfl, .inl (.inl (s.sub _ _ h2)), by rw [RfL.length h4, hn, bnds_len hb], H0, HF, env, ts, fe, ft, xs, env', s, h4, hb, k⟩
    | _ => cases hb
  | _ => cases hb
end

/-! ### what is walked -/
def Walks (H0 Hs : Hp) (J : It) (ds : List D) : Prop := ∀ (i : Nat) (H : Hp), Ex Hs H → Ex H0 H →
  (∀ d, ds[i]? = some d → J.go i H ∧ ∀ x H', J.yld i H x H' → (H' = H ∧ Rf H0 d x) ∨ ∃ p vs xs, H p = none ∧ H' = upd H p (.tup vs) ∧ x = .ref p ∧ d = .nd .tup xs ∧ RfL H0 xs vs) ∧ (ds[i]? = none → J.stop i H)
theorem Walks.mono {H0 Hs H0' Hs' : Hp} {J : It} {ds : List D} (e0 : Ex H0 H0') (e : Ex Hs Hs') (w : Walks H0 Hs J ds) : Walks H0' Hs' J ds := fun i H a b => by
  obtain ⟨h1, h2⟩ := w i H (e.trans a) (e0.trans b)
  refine ⟨fun d hd => ⟨(h1 d hd).1, fun x H' y => ?_⟩, h2⟩
  rcases (h1 d hd).2 x H' y with ⟨q1, q2⟩ | ⟨p, vs, xs, q1, q2, q3, q4, q5⟩
  · exact .inl ⟨q1, q2.mono e0⟩
  · exact .inr ⟨p, vs, xs, q1, q2, q3, q4, RfL.mono e0 q5⟩
/-- a yield's effect on the state: the item stands frozen -/
theorem S.yield {H0 HF H : Hp} {σ : L2.St} {env : Env} {ts : List Tm} {fe ft : Fp} {d : D} {x : V} {H' : Hp} (s : S H0 HF H σ env ts fe ft)
    (h : (H' = H ∧ Rf H0 d x) ∨ ∃ p vs xs, H p = none ∧ H' = upd H p (.tup vs) ∧ x = .ref p ∧ d = .nd .tup xs ∧ RfL H0 xs vs) : ∃ H0', Ex H0 H0' ∧ Ex H H' ∧ S H0' HF H' σ env ts fe ft ∧ Rf H0' d x := by
  rcases h with ⟨rfl, r⟩ | ⟨p, vs, xs, hp, rfl, rfl, rfl, r⟩
  · exact ⟨H0, Ex.refl _, Ex.refl _, s, r⟩
  · have e0 : Ex H0 (upd H0 p (.tup vs)) := Ex.new (s.sub.none hp)
    exact ⟨_, e0, Ex.new hp, s.allocZ hp, p, 0, vs, rfl, upd_same, trivial, RfL.mono e0 r⟩
def D.lstOf : D → Option (List D)
  | .nd .lst xs => some xs
  | .nd .scr xs => some xs
  | _ => none
theorem walks_list {K : PySem.W.Frag} {H0 Hs : Hp} {a : Addr} {vs : List V} {ds : List D} (h : SqL K Hs a vs) (hK : ∀ H, Ex Hs H → SqL K H a vs) (hu : ∀ H ys, SqL K H a vs → SqL K H a ys → ys = vs) (r : RfL H0 ds vs) : Walks H0 Hs (Itl K a) ds := fun i H e e0 => by
  refine ⟨fun d hd => ?_, fun hd => ⟨vs, hK H e, ?_⟩⟩
  · obtain ⟨w, h1, h2⟩ := RfL.get r hd
    refine ⟨⟨vs, w, hK H e, h1⟩, fun x H' y => .inl ⟨y.1, ?_⟩⟩
    have := y.2 vs (hK H e)
    rw [h1] at this
    cases this
    exact h2
  · rw [RfL.length r]
    exact List.getElem?_eq_none_iff.mp hd
theorem Sh.sqL {K : PySem.W.Frag} {s : Sh} {H : Hp} {a dx : Addr} {vs : List V} {d : List D} {ds : List D} (h : s.std H a dx vs) (e : (D.nd s d).lstOf = some ds) : SqL K H a vs ∧ d = ds := by
  cases s with
  | lst => cases e; exact ⟨.inl (.inl h), rfl⟩
  | scr => cases e; obtain ⟨o, h⟩ := h; exact ⟨.inl (.inr ⟨o, h⟩), rfl⟩
  | _ => cases e
theorem SqL.ex {K : PySem.W.Frag} {H H' : Hp} {a : Addr} {xs : List V} (e : Ex H H') (h : SqL K H a xs) : SqL K H' a xs := by
  rcases h with h | h
  · exact .inl (e.rd h)
  · exact .inr h
def tPI (it : Env → Option (List D)) : TI := fun σ H R => ∃ H0 HF env ts fe ft ds, S H0 HF H σ env ts fe ft ∧ it env = some ds ∧
  ∀ J H' H0' ft', Ex H0 H0' → Ex H H' → S H0' HF H' σ env ts fe ft' → Walks H0' H' J ds → R J H'
def pItL (p : PX) : Env → Option (List D) := fun env => match p env with
  | some (_, k, d) => match d.lstOf with
    | some xs => if k.zs xs.length then some xs else none
    | none => none
  | none => none
section
variable {X : Cx} {tg l : Expr} {pos : Pos} {p q : PX}
theorem pi_mono {e : Expr} {t t' : TI} (h : PI X tg e t) (k : ∀ σ H R, t' σ H R → t σ H R) : PI X tg e t' := ⟨fun pins s σ H R I q => h.run pins s σ H R I (k _ _ _ q)⟩
theorem RV.lstOf {K : PySem.W.Frag} {H0 H : Hp} {fe : Fp} (e0 : Ex H0 H) {b : Bool} {d : D} {xs : List D} {k : Kd} {u : V} (h : RV H0 H fe (b, k, d) u) (hs : d.lstOf = some xs) (hz : k.zs xs.length = true) : ∃ a vs, u = .ref a ∧ SqL K H a vs ∧ RfL H0 xs vs := by
  unfold D.lstOf at hs
  split at hs
  · cases hs; obtain ⟨a, dx, vs, h1, h2, h3⟩ := h.elems e0 hz; exact ⟨a, vs, h1, .inl (.inl h2), h3⟩
  · cases hs; obtain ⟨a, dx, vs, h1, ⟨o, h2⟩, h3⟩ := h.elems e0 hz; exact ⟨a, vs, h1, .inl (.inr ⟨o, h2⟩), h3⟩
  · cases hs
theorem piv_list (h : PE X l (tP p)) : PI X tg l (tPI (pItL p)) := pi_mono (pi_list h) fun σ H R z => by
  obtain ⟨H0, HF, env, ts, fe, ft, ds, s, hp, k⟩ := z
  unfold pItL at hp
  split at hp
  · rename_i b kk d h1
    split at hp
    · rename_i xs h2
      split at hp
      · rename_i hz
        cases hp
        refine ⟨H0, HF, env, ts, fe, ft, _, s, h1, fun H1 H01 x ft1 e0 e s1 rx => ?_⟩
        obtain ⟨a, vs, rfl, h3, h4⟩ := rx.lstOf (K := X.K) s1.sub h2 hz
        obtain ⟨ft2, s2⟩ := s1.popP
        refine ⟨a, rfl, ⟨vs, h3⟩, k _ _ _ _ e0 e s2 fun i H' e' e0' => ⟨fun d hd => ?_, fun hd => ⟨vs, SqL.ex e' h3, ?_⟩⟩⟩
        · obtain ⟨w, q1, q2⟩ := RfL.get h4 hd
          refine ⟨⟨vs, w, SqL.ex e' h3, q1⟩, fun x H'' y => .inl ⟨y.1, ?_⟩⟩
          have := y.2 vs (SqL.ex e' h3)
          rw [q1] at this
          cases this
          exact q2
        · rw [RfL.length h4]
          exact List.getElem?_eq_none_iff.mp hd
      · cases hp
    · cases hp
  · cases hp
def rngD (lo : Int) (n : Nat) : List D := (List.range n).map fun (i : Nat) => .int (lo + (i : Int))
theorem rngD_get (lo : Int) (n i : Nat) : (rngD lo n)[i]? = if i < n then some (.int (lo + (i : Int))) else none := by
  unfold rngD
  rw [List.getElem?_map]
  split
  · rename_i h; rw [List.getElem?_range h]; rfl
  · rename_i h; rw [List.getElem?_eq_none (by simpa using h)]; rfl
theorem walks_rng {H0 Hs : Hp} (lo : Int) (n : Nat) : Walks H0 Hs (Itr lo n) (rngD lo n) := fun i H e e0 => by
  rw [rngD_get]
  split
  · rename_i h
    refine ⟨fun d hd => ⟨h, fun x H' y => .inl ⟨y.1, ?_⟩⟩, fun hd => by cases hd⟩
    cases hd
    exact y.2
  · rename_i h
    exact ⟨fun d hd => by (cases hd), fun _ => Nat.le_of_not_lt h⟩
def rngOk (i : Int) : Bool := decide (-(2 ^ 62) ≤ i) && decide (i < 2 ^ 62)
theorem rngOk_iff {i : Int} (h : rngOk i = true) : -(2 ^ 62) ≤ i ∧ i < 2 ^ 62 := by
  unfold rngOk at h
  rw [Bool.and_eq_true] at h
  exact ⟨of_decide_eq_true h.1, of_decide_eq_true h.2⟩
def pItR1 (ps : Env → Option (List Pv)) : Env → Option (List D) := fun env => match ps env with
  | some [(_, _, .int j)] => if rngOk j then some (rngD 0 j.toNat) else none
  | _ => none
def pItR2 (ps : Env → Option (List Pv)) : Env → Option (List D) := fun env => match ps env with
  | some [(_, _, .int i), (_, _, .int j)] => if rngOk i && rngOk j then some (rngD i (j - i).toNat) else none
  | _ => none
variable {ps : Env → Option (List Pv)}
theorem tmsOf_drop {H0 HF H : Hp} {σ : L2.St} {env : Env} {ts : List Tm} {fe ft : Fp} {vs : List Pv} {us : List V} (s : S H0 HF H σ env (tmsOf vs us ++ ts) fe ft) : ∃ ft', S H0 HF H σ env ts fe ft' :=
  let ⟨ft', s', _⟩ := s.drop
  ⟨ft', s'⟩
theorem sh_rng1 {σ : L2.St} {H : Hp} {R : It → Hp → Prop} (z : tPI (pItR1 ps) σ H R) : iRng1 (tPA ps) σ H R := by
  obtain ⟨H0, HF, env, ts, fe, ft, ds, s, hp, k⟩ := z
  unfold pItR1 at hp
  split at hp
  · rename_i b kk j h1
    split at hp
    · rename_i hj
      cases hp
      refine ⟨H0, HF, env, ts, fe, ft, _, s, h1, fun H1 H01 us ft1 e0 e s1 rx => ?_⟩
      obtain ⟨ft2, s2⟩ := tmsOf_drop s1
      obtain ⟨u, r, rfl, rx, hr⟩ := rx
      cases (show r = [] from hr)
      have eu : u = .int j := rx.rf s1.sub
      subst eu
      exact ⟨j, rfl, (rngOk_iff hj).1, (rngOk_iff hj).2, k _ _ _ _ e0 e s2 (walks_rng 0 j.toNat)⟩
    · cases hp
  · cases hp
theorem sh_rng2 {σ : L2.St} {H : Hp} {R : It → Hp → Prop} (z : tPI (pItR2 ps) σ H R) : iRng2 (tPA ps) σ H R := by
  obtain ⟨H0, HF, env, ts, fe, ft, ds, s, hp, k⟩ := z
  unfold pItR2 at hp
  split at hp
  · rename_i b kk i b' kk' j h1
    split at hp
    · rename_i hj
      rw [Bool.and_eq_true] at hj
      cases hp
      refine ⟨H0, HF, env, ts, fe, ft, _, s, h1, fun H1 H01 us ft1 e0 e s1 rx => ?_⟩
      obtain ⟨ft2, s2⟩ := tmsOf_drop s1
      obtain ⟨u, r, rfl, rx, u', r', rfl, rx', hr⟩ := rx
      cases (show r' = [] from hr)
      have eu : u = .int i := rx.rf s1.sub
      have eu' : u' = .int j := rx'.rf s1.sub
      subst eu eu'
      exact ⟨i, j, rfl, ⟨(rngOk_iff hj.1).1, (rngOk_iff hj.1).2, (rngOk_iff hj.2).1, (rngOk_iff hj.2).2⟩, k _ _ _ _ e0 e s2 (walks_rng i (j - i).toNat)⟩
    · cases hp
  · cases hp
theorem piv_rng1 {a : Expr} {pp : Pos} (hg : Gl X "range") (hm : X.mg "range" = none) (ha : PA X [a] (tPA ps)) (hs : starEach [a] X.env = [(false, eval a X.env)] := by rfl) : PI X tg (.Call (.Name "range" pp) [a] [] pos) (tPI (pItR1 ps)) :=
  pi_mono (pi_range1 hg hm ha hs) fun _ _ _ z => sh_rng1 z
theorem piv_rng2 {a b : Expr} {pp : Pos} (hg : Gl X "range") (hm : X.mg "range" = none) (ha : PA X [a, b] (tPA ps)) (hs : starEach [a, b] X.env = [(false, eval a X.env), (false, eval b X.env)] := by rfl) (hs2 : starEach [b] X.env = [(false, eval b X.env)] := by rfl) :
    PI X tg (.Call (.Name "range" pp) [a, b] [] pos) (tPI (pItR2 ps)) :=
  pi_mono (pi_range2 hg hm ha hs hs2) fun _ _ _ z => sh_rng2 z
def enumD (n : Nat) : List D → List D
  | [] => []
  | d :: ds => .nd .tup [.int (n : Int), d] :: enumD (n + 1) ds
theorem enumD_get : ∀ (ds : List D) (n i : Nat), (enumD n ds)[i]? = ds[i]?.map fun d => .nd .tup [.int ((n + i : Nat) : Int), d]
  | [], n, i => by simp [enumD]
  | d :: ds, n, 0 => by simp [enumD]
  | d :: ds, n, i + 1 => by simp only [enumD, List.getElem?_cons_succ]; rw [enumD_get ds (n + 1) i, Nat.add_right_comm, Nat.add_assoc]
def pItE (ps : Env → Option (List Pv)) : Env → Option (List D) := fun env => match ps env with
  | some [(_, k, d)] => match d.lstOf with
    | some xs => if k.zs xs.length then some (enumD 0 xs) else none
    | none => none
  | _ => none
theorem walks_enum {K : PySem.W.Frag} {H0 Hs : Hp} {a : Addr} {vs : List V} {xs : List D} (h : SqL K Hs a vs) (r : RfL H0 xs vs) : Walks H0 Hs (Ite K a) (enumD 0 xs) := fun i H e e0 => by
  rw [enumD_get]
  cases hd : xs[i]? with
  | none =>
    refine ⟨fun d q => by (cases q), fun _ => ⟨vs, SqL.ex e h, ?_⟩⟩
    rw [RfL.length r]
    exact List.getElem?_eq_none_iff.mp hd
  | some d =>
    obtain ⟨w, q1, q2⟩ := RfL.get r hd
    refine ⟨fun d' q => ?_, fun q => by cases q⟩
    cases q
    refine ⟨⟨vs, w, SqL.ex e h, q1⟩, fun x H' y => .inr ?_⟩
    obtain ⟨T, x', rfl, hT, rfl, hx⟩ := y
    have := hx vs (SqL.ex e h)
    rw [q1] at this
    cases this
    exact ⟨T, _, _, hT, rfl, rfl, rfl, .cons (by show V.int _ = V.int _; rw [Nat.zero_add]) (.cons q2 .nil)⟩
theorem sh_enum {σ : L2.St} {H : Hp} {R : It → Hp → Prop} {K : PySem.W.Frag} (z : tPI (pItE ps) σ H R) : iEnum K (tPA ps) σ H R := by
  obtain ⟨H0, HF, env, ts, fe, ft, ds, s, hp, k⟩ := z
  unfold pItE at hp
  split at hp
  · rename_i b kk d h1
    split at hp
    · rename_i xs h2
      split at hp
      · rename_i hz
        cases hp
        refine ⟨H0, HF, env, ts, fe, ft, _, s, h1, fun H1 H01 us ft1 e0 e s1 rx => ?_⟩
        obtain ⟨ft2, s2⟩ := tmsOf_drop s1
        obtain ⟨u, r, rfl, rx, hr⟩ := rx
        cases (show r = [] from hr)
        obtain ⟨a, vs, rfl, h3, h4⟩ := rx.lstOf (K := K) s1.sub h2 hz
        exact ⟨a, vs, rfl, h3, k _ _ _ _ e0 e s2 (walks_enum h3 h4)⟩
      · cases hp
    · cases hp
  · cases hp
theorem piv_enum {e : Expr} {pp tpos : Pos} {elts : List Expr} {kk : Nat} (hg : Gl X "enumerate") (hm : X.mg "enumerate" = none) (ha : PA X [e] (tPA ps)) (hs : starEach [e] X.env = [(false, eval e X.env)] := by rfl) :
    PI X (.Tuple elts kk tpos) (.Call (.Name "enumerate" pp) [e] [] pos) (tPI (pItE ps)) := pi_mono (pi_enum hg hm ha hs) fun _ _ _ z => sh_enum z
def zipD : List D → List D → List D
  | x :: xs, y :: ys => .nd .tup [x, y] :: zipD xs ys
  | _, _ => []
theorem zipD_get : ∀ (xs ys : List D) (i : Nat), (zipD xs ys)[i]? = match xs[i]?, ys[i]? with
    | some x, some y => some (.nd .tup [x, y])
    | _, _ => none
  | [], ys, i => by simp [zipD]
  | x :: xs, [], i => by cases i <;> simp [zipD]
  | x :: xs, y :: ys, 0 => by simp [zipD]
  | x :: xs, y :: ys, i + 1 => by simp only [zipD, List.getElem?_cons_succ]; exact zipD_get xs ys i
def pItZ (ps : Env → Option (List Pv)) : Env → Option (List D) := fun env => match ps env with
  | some [(_, k, d), (_, k', d')] => match d.lstOf, d'.lstOf with
    | some xs, some ys => if k.zs xs.length && k'.zs ys.length then some (zipD xs ys) else none
    | _, _ => none
  | _ => none
theorem walks_zip {K : PySem.W.Frag} {H0 Hs : Hp} {a b : Addr} {vs ws : List V} {xs ys : List D} (h : SqL K Hs a vs) (h' : SqL K Hs b ws) (r : RfL H0 xs vs) (r' : RfL H0 ys ws) : Walks H0 Hs (Itz K a b) (zipD xs ys) := fun i H e e0 => by
  rw [zipD_get]
  cases hx : xs[i]? with
  | none =>
    refine ⟨fun d q => by (cases q), fun _ => ⟨vs, ws, SqL.ex e h, SqL.ex e h', .inl ?_⟩⟩
    rw [RfL.length r]
    exact List.getElem?_eq_none_iff.mp hx
  | some x =>
    cases hy : ys[i]? with
    | none =>
      refine ⟨fun d q => by (cases q), fun _ => ⟨vs, ws, SqL.ex e h, SqL.ex e h', .inr ?_⟩⟩
      rw [RfL.length r']
      exact List.getElem?_eq_none_iff.mp hy
    | some y =>
      obtain ⟨u, q1, q2⟩ := RfL.get r hx
      obtain ⟨w, q3, q4⟩ := RfL.get r' hy
      refine ⟨fun d' q => ?_, fun q => by cases q⟩
      cases q
      refine ⟨⟨vs, ws, u, w, SqL.ex e h, SqL.ex e h', q1, q3⟩, fun x H' y => .inr ?_⟩
      obtain ⟨T, x', y', rfl, hT, rfl, hx', hy'⟩ := y
      have := hx' vs (SqL.ex e h)
      rw [q1] at this
      cases this
      have := hy' ws (SqL.ex e h')
      rw [q3] at this
      cases this
      exact ⟨T, _, _, hT, rfl, rfl, rfl, .cons q2 (.cons q4 .nil)⟩
theorem sh_zip {σ : L2.St} {H : Hp} {R : It → Hp → Prop} {K : PySem.W.Frag} (z : tPI (pItZ ps) σ H R) : iZip K (tPA ps) σ H R := by
  obtain ⟨H0, HF, env, ts, fe, ft, ds, s, hp, k⟩ := z
  unfold pItZ at hp
  split at hp
  · rename_i b kk d b' kk' d' h1
    split at hp
    · rename_i xs ys h2 h2'
      split at hp
      · rename_i hz
        rw [Bool.and_eq_true] at hz
        cases hp
        refine ⟨H0, HF, env, ts, fe, ft, _, s, h1, fun H1 H01 us ft1 e0 e s1 rx => ?_⟩
        obtain ⟨ft2, s2⟩ := tmsOf_drop s1
        obtain ⟨u, r, rfl, rx, u', r', rfl, rx', hr⟩ := rx
        cases (show r' = [] from hr)
        obtain ⟨a, vs, rfl, h3, h4⟩ := rx.lstOf (K := K) s1.sub h2 hz.1
        obtain ⟨a', vs', rfl, h3', h4'⟩ := rx'.lstOf (K := K) s1.sub h2' hz.2
        exact ⟨a, a', vs, vs', rfl, h3, h3', k _ _ _ _ e0 e s2 (walks_zip h3 h3' h4 h4')⟩
      · cases hp
    · cases hp
  · cases hp
theorem piv_zip {e e2 : Expr} {pp tpos : Pos} {elts : List Expr} {kk : Nat} (hg : Gl X "zip") (hm : X.mg "zip" = none) (ha : PA X [e, e2] (tPA ps))
    (hs : starEach [e, e2] X.env = (false, eval e X.env) :: starEach [e2] X.env := by rfl) (hpl : (backTo pos (starEach [e2] X.env)).any (·.1) = false := by rfl) :
    PI X (.Tuple elts kk tpos) (.Call (.Name "zip" pp) [e, e2] [] pos) (tPI (pItZ ps)) := pi_mono (pi_zip hg hm ha hs hpl) fun _ _ _ z => sh_zip z
end
end Vt

set_option Elab.async false
set_option linter.all false
set_option autoImplicit false
set_option maxRecDepth 100000
set_option maxHeartbeats 1000000
/-! Vt7: slots forgotten; a temporary list grows; comprehensions of pure parts. -/
namespace Vt
open PySem L2

mutual
def Kd.beq : Kd → Kd → Bool
  | .z, .z => true
  | .all a, .all b => Kd.beq a b
  | .each as, .each bs => Kd.beqL as bs
  | _, _ => false
def Kd.beqL : List Kd → List Kd → Bool
  | [], [] => true
  | a :: as, b :: bs => Kd.beq a b && Kd.beqL as bs
  | _, _ => false
end
mutual
theorem Kd.beq_eq : ∀ {a b : Kd}, Kd.beq a b = true → a = b
  | .z, .z, _ => rfl
  | .all a, .all b, h => by rw [Kd.beq_eq (a := a) (b := b) h]
  | .each as, .each bs, h => by rw [Kd.beqL_eq (as := as) (bs := bs) h]
  | .z, .all _, h => by cases h
  | .z, .each _, h => by cases h
  | .all _, .z, h => by cases h
  | .all _, .each _, h => by cases h
  | .each _, .z, h => by cases h
  | .each _, .all _, h => by cases h
theorem Kd.beqL_eq : ∀ {as bs : List Kd}, Kd.beqL as bs = true → as = bs
  | [], [], _ => rfl
  | a :: as, b :: bs, h => by
    simp only [Kd.beqL, Bool.and_eq_true] at h
    rw [Kd.beq_eq h.1, Kd.beqL_eq h.2]
  | [], _ :: _, h => by cases h
  | _ :: _, [], h => by cases h
end

section
variable {H0 H H0' H' HF : Hp} {σ σ' : L2.St} {env env' : Env} {ts : List Tm} {fe ft : Fp}
/-- slots that own nothing forgotten -/
theorem RkE.forget : ∀ {env env' : Env} {σ σ' : L2.St} {f : Fp}, env'.length = env.length → σ'.length = σ.length →
    (∀ (j : Nat) (s : Sl), env[j]? = some s → (env'[j]? = some .un ∧ s.zero = true) ∨ (env'[j]? = some s ∧ σ'[j]? = σ[j]?)) → RkE H0 H env σ f → RkE H0 H env' σ' f
  | [], env', σ, σ', f, h1, h2, _, h => by
    have e1 : env' = [] := List.eq_nil_of_length_eq_zero h1
    have e3 : σ = [] := h.1
    have e2 : σ' = [] := List.eq_nil_of_length_eq_zero (by rw [h2, e3]; rfl)
    subst e1 e2
    exact ⟨rfl, h.2⟩
  | s :: env, env', σ, σ', f, h1, h2, hp, h => by
    obtain ⟨o, us, f1, f2, rfl, r1, r2, h4⟩ := h
    cases env' with
    | nil => cases h1
    | cons s' env' =>
      cases σ' with
      | nil => cases h2
      | cons o' us' =>
        refine ⟨o', us', f1, f2, rfl, ?_, RkE.forget (by simpa using h1) (by simpa using h2) (fun j s hj => by simpa using hp (j + 1) s (by simpa using hj)) r2, h4⟩
        rcases hp 0 s rfl with ⟨a, b⟩ | ⟨a, b⟩
        · cases (show s' = .un by simpa using a)
          exact r1.zero b
        · cases (show s' = s by simpa using a)
          cases (show o' = o by simpa using b)
          exact r1
theorem S.forget (s : S H0 HF H σ env ts fe ft) (h1 : env'.length = env.length) (h2 : σ'.length = σ.length)
    (hp : ∀ (j : Nat) (s : Sl), env[j]? = some s → (env'[j]? = some .un ∧ s.zero = true) ∨ (env'[j]? = some s ∧ σ'[j]? = σ[j]?)) : S H0 HF H σ' env' ts fe ft :=
  ⟨s.sub, s.frm, s.imm, s.dis, s.re.forget h1 h2 hp, s.tmp, s.uniq, s.s0, s.sF⟩
/-- the slots of a comprehension's own names -/
def wipeE (own : List Nat) : Nat → Env → Env
  | _, [] => []
  | n, s :: e => (if own.contains n then .un else s) :: wipeE own (n + 1) e
def ownZ (own : List Nat) : Nat → Env → Bool
  | _, [] => true
  | n, s :: e => (!own.contains n || s.zero) && ownZ own (n + 1) e
theorem wipeE_get (own : List Nat) : ∀ (env : Env) (n j : Nat), (wipeE own n env)[j]? = env[j]?.map fun s => if own.contains (n + j) then .un else s
  | [], n, j => by simp [wipeE]
  | s :: e, n, 0 => by simp [wipeE]
  | s :: e, n, j + 1 => by simp only [wipeE, List.getElem?_cons_succ]; rw [wipeE_get own e (n + 1) j, Nat.add_right_comm, Nat.add_assoc]
theorem wipeE_length (own : List Nat) : ∀ (env : Env) (n : Nat), (wipeE own n env).length = env.length
  | [], n => rfl
  | s :: e, n => by simp [wipeE, wipeE_length own e]
theorem ownZ_get {own : List Nat} : ∀ {env : Env} {n j : Nat} {s : Sl}, ownZ own n env = true → env[j]? = some s → own.contains (n + j) = true → s.zero = true
  | [], n, j, s, _, h, _ => by simp at h
  | s :: e, n, 0, _, h, hj, ho => by
    simp only [ownZ, Bool.and_eq_true, Bool.or_eq_true, Bool.not_eq_true'] at h
    simp at hj; subst hj
    rcases h.1 with q | q
    · rw [show n + 0 = n from rfl, q] at ho; cases ho
    · exact q
  | s :: e, n, j + 1, _, h, hj, ho => by
    simp only [ownZ, Bool.and_eq_true] at h
    exact ownZ_get (n := n + 1) (j := j) h.2 (by simpa using hj) (by rw [Nat.add_right_comm]; exact ho)
theorem wipe_get {σ : L2.St} {j : Nat} : ∀ {vs : List Nat}, vs.contains j = false → (wipe σ vs)[j]? = σ[j]?
  | [], _ => rfl
  | v :: vs, h => by
    simp only [List.contains_cons, Bool.or_eq_false_iff] at h
    unfold wipe
    rw [List.getElem?_set_ne (by intro e; subst e; simp at h), wipe_get h.2]
theorem wipe_in {σ : L2.St} {j : Nat} : ∀ {vs : List Nat}, vs.contains j = true → (wipe σ vs)[j]? = if j < σ.length then some none else none
  | [], h => by cases h
  | v :: vs, h => by
    unfold wipe
    by_cases e : v = j
    · subst e
      rw [List.getElem?_set]
      simp [wipe_length]
    · rw [List.getElem?_set_ne e]
      refine wipe_in ?_
      have e' : (j == v) = false := by simp; omega
      rw [List.contains_cons, e', Bool.false_or] at h
      exact h
theorem wipe_eq {σ σ2 : L2.St} {vs : List Nat} (hl : σ2.length = σ.length) (h : ∀ i, vs.contains i = false → σ2[i]? = σ[i]?) : wipe σ2 vs = wipe σ vs := by
  refine List.ext_getElem? fun j => ?_
  cases e : vs.contains j with
  | true => rw [wipe_in e, wipe_in e, hl]
  | false => rw [wipe_get e, wipe_get e, h j e]
theorem S.wiped {own : List Nat} (s : S H0 HF H σ env ts fe ft) (hz : ownZ own 0 env = true) : S H0 HF H (wipe σ own) (wipeE own 0 env) ts fe ft :=
  s.forget (wipeE_length _ _ _) (wipe_length _ _) fun j s' hj => by
    rw [wipeE_get, hj, Nat.zero_add]
    cases e : own.contains j with
    | true => exact .inl ⟨rfl, ownZ_get hz hj (by rw [Nat.zero_add]; exact e)⟩
    | false => exact .inr ⟨rfl, wipe_get e⟩
theorem S.env_back {σ1 : L2.St} {env1 : Env} (s : S H0 HF H σ1 env1 ts fe ft) (r : RkE H0 H env σ fe) : S H0 HF H σ env ts fe ft := ⟨s.sub, s.frm, s.imm, s.dis, r, s.tmp, s.uniq, s.s0, s.sF⟩

theorem RkL.snoc : ∀ {ds : List D} {k : Kd} {vs : List V} {g g' : Fp} {d : D} {v : V}, RkL H0 H ds (fun _ => k) vs g → Rk H0 H d k v g' → RkL H0 H (ds ++ [d]) (fun _ => k) (vs ++ [v]) (fun x => g x + g' x)
  | [], k, vs, g, g', d, v, h, h' => by
    have e : vs = [] := h.1
    subst e
    exact ⟨v, [], g', fun _ => 0, rfl, h', ⟨rfl, fun _ => rfl⟩, fun x => by have := h.2 x; dsimp only; omega⟩
  | a :: ds, k, vs, g, g', d, v, h, h' => by
    obtain ⟨u, us, f1, f2, rfl, r1, r2, r3⟩ := h
    exact ⟨u, us ++ [v], f1, _, rfl, r1, RkL.snoc r2 h', fun x => by have := r3 x; dsimp only; omega⟩
/-- a list that a temporary owns grows by a temporary -/
theorem S.growT {k : Kd} {d : D} {y : V} {xs : List D} {p : Addr} (s : S H0 HF H σ env ((k, d, y) :: (.all k, .nd .lst xs, .ref p) :: ts) fe ft) :
    ∃ vs ft', H p = some (.lst vs) ∧ vs.length = xs.length ∧ S H0 HF (upd H p (.lst (vs ++ [y]))) σ env ((.all k, .nd .lst (xs ++ [d]), .ref p) :: ts) fe ft' := by
  obtain ⟨f1, f2, q1, ⟨f3, f4, q2, q3, e2⟩, e1⟩ := s.tmp
  obtain ⟨a, dx, vs, g, q4, q5, q6, q7⟩ := (Rk.nd_iff (by rfl)).mp q2
  cases q4
  rw [if_neg (by decide)] at q5
  have hp1 : 1 ≤ f3 p := by rw [q5.2]; simp [one]
  have hne : ∀ x, x ≠ p → ∀ o, H x = some o → upd H p (.lst (vs ++ [y])) x = some o := fun x e o q => by rw [upd_ne e]; exact q
  have u1 := s.uniq p
  have u2 := e1 p
  have u3 := e2 p
  have h0p : H0 p = none := s.s0 p (by omega)
  have hFp : HF p = none := s.sF p (by omega)
  have keep : ∀ (f : Fp), f p = 0 → ∀ x o, 1 ≤ f x → H x = some o → upd H p (.lst (vs ++ [y])) x = some o := fun f hf x o hx q => hne x (fun e => by subst e; omega) o q
  have k1 := q1.mono (Ex.refl H0) (keep f1 (by omega))
  have k3 := RkT.mono (Ex.refl H0) (keep f4 (by omega)) q3
  have kg := RkL.mono (Ex.refl H0) (keep g (by have := q5.2 p; simp [one] at this; omega)) q7
  refine ⟨vs, fun x => (g x + f1 x) + one p x + f4 x, q5.1, RkL.length q7, fun x o q => ?_, fun x o q => ?_, fun x o q m => ?_, s.dis, s.re.mono (Ex.refl H0) (keep fe (by omega)), ⟨_, f4, (Rk.nd_iff rfl).mpr ⟨p, dx, vs ++ [y], _, rfl, by rw [if_neg (by decide)]; exact ⟨upd_same, fun _ => rfl⟩, trivial, RkL.snoc kg k1⟩, k3, fun _ => rfl⟩, fun x => ?_, fun x hx => ?_, fun x hx => ?_⟩
  · refine hne x (fun e => ?_) o (s.sub x o q)
    subst e; rw [h0p] at q; cases q
  · refine hne x (fun e => ?_) o (s.frm x o q)
    subst e; rw [hFp] at q; cases q
  · by_cases e : x = p
    · subst e; rw [upd_same] at q; cases q; exact absurd trivial m
    · rw [upd_ne e] at q; exact s.imm x o q m
  · have := s.uniq x; have := e1 x; have := e2 x; have := q5.2 x; omega
  · have := e1 x; have := e2 x; have := q5.2 x; exact s.s0 x (by omega)
  · have := e1 x; have := e2 x; have := q5.2 x; exact s.sF x (by omega)
end

/-! ### [elt for pt in it if cond] -/
def pYes : Env → Option Bool := fun _ => some true
def cmpGo (pt : Pat) (cond : Env → Option Bool) (elt : PX) (k : Kd) : List D → Env → Option (List D)
  | [], _ => some []
  | d :: ds, env => (bnd pt d env).bind fun e1 => (cond e1).bind fun b => if b = true then (elt e1).bind fun v => if (!v.1 && Kd.beq v.2.1 k) = true then (cmpGo pt cond elt k ds env).map fun r => v.2.2 :: r else none
      else cmpGo pt cond elt k ds env
def pComp (own : List Nat) (it : Env → Option (List D)) (pt : Pat) (cond : Env → Option Bool) (k : Kd) (elt : PX) : PX := fun env =>
  (it env).bind fun ds => if (decide (ds.length ≤ 100000) && ownZ own 0 env) = true then (cmpGo pt cond elt k ds (wipeE own 0 env)).map fun xs => (false, .all k, .nd .lst xs) else none
theorem sh_comp {own : List Nat} {it : Env → Option (List D)} {pt : Pat} {cond : Env → Option Bool} {k : Kd} {elt : PX} (hsl : pt.slots.all own.contains = true) : ShP (tLc (tPI it) (tG pt) (tPT cond) (tP elt) own) (pComp own it pt cond k elt) := by
  intro σ H Q z
  obtain ⟨H0, HF, env, ts, fe, ft, v, s, hp, kk⟩ := z
  unfold pComp at hp
  cases hit : it env with
  | none => rw [hit] at hp; cases hp
  | some ds =>
  rw [hit, Option.bind_some] at hp
  have hc : (decide (ds.length ≤ 100000) && ownZ own 0 env) = true := by
    cases q : (decide (ds.length ≤ 100000) && ownZ own 0 env) with
    | true => rfl
    | false => rw [q, if_neg Bool.false_ne_true] at hp; cases hp
  rw [if_pos hc] at hp
  rw [Bool.and_eq_true] at hc
  have hlen : ds.length ≤ 100000 := of_decide_eq_true hc.1
  cases hgo : cmpGo pt cond elt k ds (wipeE own 0 env) with
  | none => rw [hgo] at hp; cases hp
  | some xs =>
  rw [hgo] at hp
  cases hp
  refine ⟨H0, HF, env, ts, fe, ft, ds, s, hit, fun J H1 H01 ft1 e0 e s1 w D hD => ?_⟩
  have sw := s1.wiped (own := own) hc.2
  have hslot : ∀ i, i ∈ pt.slots → own.contains i = true := List.all_eq_true.mp hsl
  refine ⟨fun i m H' => m = ds.length - i ∧ i ≤ ds.length ∧ ∃ H0i acc rest fti, Ex H01 H0i ∧ Ex H1 H' ∧ S H0i HF H' (wipe σ own) (wipeE own 0 env) ((.all k, .nd .lst acc, .ref D) :: ts) fe fti ∧
    cmpGo pt cond elt k (ds.drop i) (wipeE own 0 env) = some rest ∧ acc ++ rest = xs ∧ acc.length ≤ i, ⟨_, rfl, Nat.zero_le _, H01, [], xs, _, Ex.refl _, Ex.new hD,
      (sw.allocM (o := .lst []) hD trivial).pushO (cs := []) (p := D) (d := .nd .lst []) (k := .all k) (sw.sub.none hD) (sw.frm.none hD) (sw.free hD) (fun g hg =>
        (Rk.nd_iff rfl).mpr ⟨D, 0, [], fun _ => 0, rfl, by rw [if_neg (by decide)]; exact ⟨upd_same, fun x => by have := hg x; dsimp only; omega⟩, trivial, rfl, fun _ => rfl⟩), hgo, rfl, Nat.le_refl _⟩, ?_⟩
  rintro i m H' ⟨rfl, hi, H0i, acc, rest, fti, e0i, e1i, si, hgi, hacc, hal⟩
  obtain ⟨w1, w2⟩ := w i H' e1i (e0i.trans si.sub)
  by_cases hlt : i < ds.length
  · obtain ⟨d, hd⟩ : ∃ d, ds[i]? = some d := ⟨ds[i], by simp [hlt]⟩
    obtain ⟨hgo', hy⟩ := w1 d hd
    refine .inr ⟨hgo', fun H' => ∃ H0i acc rest fti, Ex H01 H0i ∧ Ex H1 H' ∧ S H0i HF H' (wipe σ own) (wipeE own 0 env) ((.all k, .nd .lst acc, .ref D) :: ts) fe fti ∧
      cmpGo pt cond elt k (ds.drop (i + 1)) (wipeE own 0 env) = some rest ∧ acc ++ rest = xs ∧ acc.length ≤ i + 1, fun H'' q => ⟨ds.length - (i + 1), by omega, rfl, hlt, q⟩, fun x H'' y => ?_⟩
    have hdrop : ds.drop i = d :: ds.drop (i + 1) := by
      rw [List.drop_eq_getElem_cons hlt]
      congr 1
      have := List.getElem?_eq_some_iff.mp hd
      exact this.2
    rw [hdrop] at hgi
    unfold cmpGo at hgi
    obtain ⟨H02, e02, e2, s2, r2⟩ := si.yield (by
      rcases hy x H'' y with ⟨a, b⟩ | ⟨p, vs, xs', a, b, c, dd, ee⟩
      · exact .inl ⟨a, b.mono e0i⟩
      · exact .inr ⟨p, vs, xs', a, b, c, dd, RfL.mono e0i ee⟩)
    cases hb : bnd pt d (wipeE own 0 env) with
    | none => rw [hb] at hgi; cases hgi
    | some env1 =>
    rw [hb, Option.bind_some] at hgi
    cases hcd : cond env1 with
    | none => rw [hcd] at hgi; cases hgi
    | some b =>
    rw [hcd, Option.bind_some] at hgi
    refine ⟨H02, HF, _, _, fe, fti, d, env1, s2, r2, hb, fun σ2 fe2 ft2 s3 hσ hz => ?_⟩
    have hfe : fe2 = fe := by
      refine funext (hz fun j hj s' hs' => ?_)
      rw [wipeE_get, Nat.zero_add, hslot j hj] at hs'
      cases q : env[j]? with
      | none => rw [q] at hs'; cases hs'
      | some s'' => rw [q] at hs'; cases hs'; rfl
    subst hfe
    have hl2 : σ2.length = σ.length := by rw [s3.len, bnd_length hb, wipeE_length, s1.len]
    have hwipe : wipe σ2 own = wipe σ own := wipe_eq hl2 fun j hj => by
      rw [hσ j (fun hm => by rw [hslot j hm] at hj; cases hj), wipe_get hj]
    have hw2 : wipe σ2 own = wipe (wipe σ own) own := by
      rw [hwipe]
      exact (wipe_eq (wipe_length _ _) fun j hj => wipe_get hj).symm
    have back : ∀ {H0x Hx : Hp} {tsx : List Tm} {fx : Fp}, S H0x HF Hx σ2 env1 tsx fe2 fx → S H0x HF Hx (wipe σ own) (wipeE own 0 env) tsx fe2 fx := fun {H0x Hx tsx fx} sx => by
      refine sx.forget (by rw [bnd_length hb]) (by rw [wipe_length, hl2]) fun j s' hj => ?_
      cases e : own.contains j with
      | true =>
        left
        refine ⟨?_, bnd_zero hb hj fun s'' hs'' => ?_⟩
        · rw [wipeE_get, Nat.zero_add, e]
          cases q : env[j]? with
          | none =>
            have l1 := (List.getElem?_eq_some_iff.mp hj).1
            rw [bnd_length hb, wipeE_length] at l1
            rw [List.getElem?_eq_none_iff] at q
            omega
          | some _ => rfl
        · rw [wipeE_get, Nat.zero_add, e] at hs''
          cases q : env[j]? with
          | none => rw [q] at hs''; cases hs''
          | some _ => rw [q] at hs''; cases hs''; rfl
      | false =>
        right
        have hn : j ∉ pt.slots := fun hm => by rw [hslot j hm] at e; cases e
        refine ⟨?_, (hσ j hn).symm⟩
        cases q : (wipeE own 0 env)[j]? with
        | none =>
          have l1 := (List.getElem?_eq_some_iff.mp hj).1
          rw [bnd_length hb] at l1
          rw [List.getElem?_eq_none_iff] at q
          omega
        | some s'' =>
          rw [bnd_keep hb q hn] at hj
          exact hj
    refine ⟨by rw [hwipe], ?_⟩
    refine ⟨H02, HF, env1, _, fe2, ft2, b, s3, hcd, fun H3 H03 ft3 e03 e3 s4 => ?_⟩
    have eH : Ex H1 H3 := e1i.trans (e2.trans e3)
    have eH0 : Ex H01 H03 := e0i.trans (e02.trans e03)
    cases b with
    | false =>
      refine iteF ⟨H03, acc, rest, ft3, eH0, eH, back s4, ?_, hacc, by omega⟩
      rw [if_neg Bool.false_ne_true] at hgi
      exact hgi
    | true =>
      rw [if_pos rfl] at hgi
      refine iteT ?_
      cases hel : elt env1 with
      | none => rw [hel] at hgi; cases hgi
      | some v =>
      rw [hel, Option.bind_some] at hgi
      obtain ⟨vb, vk, vd⟩ := v
      have hv : (!vb && Kd.beq vk k) = true := by
        cases q : (!vb && Kd.beq vk k) with
        | true => rfl
        | false => dsimp only at hgi; rw [q, if_neg Bool.false_ne_true] at hgi; cases hgi
      dsimp only at hgi
      rw [if_pos hv] at hgi
      simp only [Bool.and_eq_true, Bool.not_eq_true'] at hv
      obtain ⟨hv1, hv2⟩ := hv
      subst hv1
      have := Kd.beq_eq hv2
      subst this
      cases hr : cmpGo pt cond elt vk (ds.drop (i + 1)) (wipeE own 0 env) with
      | none => rw [hr] at hgi; cases hgi
      | some r =>
      rw [hr] at hgi
      cases hgi
      refine ⟨H03, HF, env1, _, fe2, ft3, _, s4, hel, fun H4 H04 yv ft4 e04 e4 s5 rx => ?_⟩
      have s6 : S H04 HF H4 σ2 env1 ((vk, vd, yv) :: (.all vk, .nd .lst acc, .ref D) :: ts) fe2 ft4 := s5
      obtain ⟨vs, ft5, h1, h2, s7⟩ := s6.growT
      refine ⟨vs, h1, ?_, H04, acc ++ [vd], r, ft5, eH0.trans e04, ?_, back s7, rfl, by rw [List.append_assoc]; exact hacc, by rw [List.length_append]; simp; omega⟩
      · rw [h2]
        exact Nat.lt_of_le_of_lt hal (Nat.lt_of_lt_of_le hlt (le_line hlen))
      · intro a o q
        have na : a ≠ D := fun z => by subst z; rw [hD] at q; cases q
        rw [upd_ne na]
        exact e4 _ _ (eH _ _ q)
  · have hn : ds[i]? = none := List.getElem?_eq_none_iff.mpr (by omega)
    refine .inl ⟨w2 hn, ?_⟩
    have hi' : i = ds.length := by omega
    subst hi'
    rw [List.drop_length] at hgi
    cases hgi
    rw [List.append_nil] at hacc
    subst hacc
    have sb : S H0i HF H' σ env ((.all k, .nd .lst acc, .ref D) :: ts) fe fti := si.env_back (s1.re.mono e0i fun x o _ q => e1i x o q)
    exact kk H' H0i (.ref D) fti (e0.trans e0i) (e.trans e1i) sb (RV.ofTop (v := (false, .all k, .nd .lst acc)) rfl sb)
theorem pts_yes {X : Cx} : PTs X [] (tPT pYes) := ⟨fun pins s σ H Q I hw => by
  obtain ⟨H0, HF, env, ts, fe, ft, b, st, hp, k⟩ := hw
  cases hp
  exact pts_nil.run pins s σ H Q I (k H H0 ft (Ex.refl _) (Ex.refl _) st)⟩
theorem pv_lc {X : Cx} {elt tg iter : Expr} {ifs : List Expr} {scope : Scope} {own : List (Str × Nat)} {pos : Pos} {it : PySem.Env → Option (List D)} {itv : Env → Option (List D)} {pt : Pat} {cond : Env → Option Bool} {k : Kd} {p : PX} (hc : X.calm = true) (hN : X.N.Nodup) (hi : PI X tg iter (tPI itv)) (ok : BlkOk X.N X.env.scope scope own)
    (hg : ∀ (s : Shared) (H : Hp) (C : Addr) (cl : List (Str × Addr)) (fp : List Addr), PG (X.blk s H scope (compEnvC scope cl C X.env) fp) tg (tG pt)) (ht : ∀ (s : Shared) (H : Hp) (C : Addr) (cl : List (Str × Addr)) (fp : List Addr), PTs (X.blk s H scope (compEnvC scope cl C X.env) fp) ifs (tPT cond))
    (he : ∀ (s : Shared) (H : Hp) (C : Addr) (cl : List (Str × Addr)) (fp : List Addr), PE (X.blk s H scope (compEnvC scope cl C X.env) fp) elt (tP p)) (hsl : pt.slots.all (own.map (·.2)).contains = true := by rfl) (hs : ∀ x, foldedSetIterable iter X.env x = pure x := by intro _; rfl) :
    PE X (.ListComp elt [⟨tg, iter, ifs, 0⟩] scope pos) (tP (pComp (own.map (·.2)) itv pt cond k p)) :=
  pe_mono (pe_lc hc hN hi ok hg ht he hs) fun _ _ _ z => sh_comp hsl z
end Vt

set_option Elab.async false
set_option linter.all false
set_option autoImplicit false
set_option maxRecDepth 100000
set_option maxHeartbeats 1000000
/-! Vt8: expressions and tests with effects; statements. -/
namespace Vt
open PySem L2

theorem KX.drop1 {H0 HF H0' : Hp} {σ : L2.St} {ts : List Tm} {E : XK} {C : Addr} {x : D} {env : Env} (t : List Tm) (k : KX H0 HF σ ts E C x env) (e0 : Ex H0 H0') : KX H0' HF σ (t ++ ts) E C x env := fun d H' H0'' fe' ft' e s r =>
  let ⟨ft2, s2, _⟩ := s.drop
  k d H' H0'' fe' ft2 (e0.trans e) s2 r
/-- what is wanted behind an M -/
def KM (H0 HF : Hp) (σ : L2.St) (ts : List Tm) (E : XK) (Q : VK) : Res Mv → Prop
  | .ok v env' => ∀ H' H0' u fe' ft', Ex H0 H0' → S H0' HF H' σ env' ((v.1, v.2, u) :: ts) fe' ft' → Q u H'
  | .exc C x env' => KX H0 HF σ ts E C x env'
  | .bad => False
def KMT (H0 HF : Hp) (σ : L2.St) (ts : List Tm) (E : XK) (Q : Bool → Hp → Prop) : Res Bool → Prop
  | .ok b env' => ∀ H' H0' fe' ft', Ex H0 H0' → S H0' HF H' σ env' ts fe' ft' → Q b H'
  | .exc C x env' => KX H0 HF σ ts E C x env'
  | .bad => False
def KMA (H0 HF : Hp) (σ : L2.St) (ts : List Tm) (E : XK) (Q : List V → Hp → Prop) : Res (List Mv) → Prop
  | .ok vs env' => ∀ H' H0' us fe' ft', Ex H0 H0' → us.length = vs.length → S H0' HF H' σ env' (zipT vs us ++ ts) fe' ft' → Q us H'
  | .exc C x env' => KX H0 HF σ ts E C x env'
  | .bad => False
section
variable {H0 HF H H0' H' : Hp} {σ : L2.St} {env : Env} {ts : List Tm} {fe ft : Fp} {E : XK} {m n : MX Mv}
theorem tM_in {Q : VK} (h : tM E m σ H Q) : ∃ H0 HF env ts fe ft, S H0 HF H σ env ts fe ft ∧ KM H0 HF σ ts E Q (m env) := by
  obtain ⟨H0, HF, env, ts, fe, ft, s, k⟩ := h
  refine ⟨H0, HF, env, ts, fe, ft, s, ?_⟩
  cases h : m env <;> rw [h] at k <;> exact k
theorem tM_out {Q : VK} (s : S H0 HF H σ env ts fe ft) (k : KM H0 HF σ ts E Q (m env)) : tM E m σ H Q := by
  refine ⟨H0, HF, env, ts, fe, ft, s, ?_⟩
  cases h : m env <;> rw [h] at k <;> exact k
theorem tMT_in {m : MX Bool} {Q : Bool → Hp → Prop} (h : tMT E m σ H Q) : ∃ H0 HF env ts fe ft, S H0 HF H σ env ts fe ft ∧ KMT H0 HF σ ts E Q (m env) := by
  obtain ⟨H0, HF, env, ts, fe, ft, s, k⟩ := h
  refine ⟨H0, HF, env, ts, fe, ft, s, ?_⟩
  cases h : m env <;> rw [h] at k <;> exact k
theorem tMT_out {m : MX Bool} {Q : Bool → Hp → Prop} (s : S H0 HF H σ env ts fe ft) (k : KMT H0 HF σ ts E Q (m env)) : tMT E m σ H Q := by
  refine ⟨H0, HF, env, ts, fe, ft, s, ?_⟩
  cases h : m env <;> rw [h] at k <;> exact k
theorem tMA_in {m : MX (List Mv)} {Q : List V → Hp → Prop} (h : tMA E m σ H Q) : ∃ H0 HF env ts fe ft, S H0 HF H σ env ts fe ft ∧ KMA H0 HF σ ts E Q (m env) := by
  obtain ⟨H0, HF, env, ts, fe, ft, s, k⟩ := h
  refine ⟨H0, HF, env, ts, fe, ft, s, ?_⟩
  cases h : m env <;> rw [h] at k <;> exact k
theorem tMA_out {m : MX (List Mv)} {Q : List V → Hp → Prop} (s : S H0 HF H σ env ts fe ft) (k : KMA H0 HF σ ts E Q (m env)) : tMA E m σ H Q := by
  refine ⟨H0, HF, env, ts, fe, ft, s, ?_⟩
  cases h : m env <;> rw [h] at k <;> exact k
theorem KM.ok {Q : VK} {v : Mv} {env' : Env} (k : KM H0 HF σ ts E Q (.ok v env')) {u : V} (e0 : Ex H0 H0') (s : S H0' HF H' σ env' ((v.1, v.2, u) :: ts) fe ft) : Q u H' := k H' H0' u fe ft e0 s
theorem KM.drop {Q : VK} {r : Res Mv} (k : KM H0 HF σ ts E Q r) (e0 : Ex H0 H0') : KM H0' HF σ ts E Q r := by
  cases r with
  | ok v e => exact fun H2 H02 u f g a s => k H2 H02 u f g (e0.trans a) s
  | exc C x e => exact fun d H2 H02 f g a s r => k d H2 H02 f g (e0.trans a) s r
  | bad => exact k
theorem KMT.drop {Q : Bool → Hp → Prop} {r : Res Bool} (k : KMT H0 HF σ ts E Q r) (e0 : Ex H0 H0') : KMT H0' HF σ ts E Q r := by
  cases r with
  | ok v e => exact fun H2 H02 f g a s => k H2 H02 f g (e0.trans a) s
  | exc C x e => exact fun d H2 H02 f g a s r => k d H2 H02 f g (e0.trans a) s r
  | bad => exact k

/-- a pure expression -/
def mP (p : PX) : MX Mv := fun env => match p env with
  | some (false, k, d) => .ok (k, d) env
  | _ => .bad
theorem sh_mP {p : PX} : ShM E (tP p) (mP p) := by
  intro σ H Q z
  obtain ⟨H0, HF, env, ts, fe, ft, s, k⟩ := tM_in z
  unfold mP at k
  split at k
  · rename_i kd d h1
    exact ⟨H0, HF, env, ts, fe, ft, _, s, h1, fun H1 H01 u ft1 e0 e s1 r => k H1 H01 u fe ft1 e0 s1⟩
  · exact k.elim
/-- slot i frozen and read; taken -/
def mMov (i : Nat) : MX Mv := fun env => match env[i]? with
  | some (.val _ d) => .ok (.z, d) (env.put i (.val .z d))
  | _ => .bad
def mTak (i : Nat) : MX Mv := fun env => match env[i]? with
  | some (.val k d) => .ok (k, d) (env.put i .un)
  | _ => .bad
theorem sh_mMov {i : Nat} : ShM E (tVar i) (mMov i) := by
  intro σ H Q z
  obtain ⟨H0, HF, env, ts, fe, ft, s, k⟩ := tM_in z
  unfold mMov at k
  split at k
  · rename_i kd d h1
    obtain ⟨H0', fe', v, e0, hv, hr, s'⟩ := s.freezeE h1
    exact ⟨v, hv, k.ok e0 (s'.pushZ hr)⟩
  · exact k.elim
theorem sh_mTak {i : Nat} : ShM E (tVar i) (mTak i) := by
  intro σ H Q z
  obtain ⟨H0, HF, env, ts, fe, ft, s, k⟩ := tM_in z
  unfold mTak at k
  split at k
  · rename_i kd d h1
    obtain ⟨fe', ft', v, hv, s'⟩ := s.takeE h1
    exact ⟨v, hv, k.ok (Ex.refl _) s'⟩
  · exact k.elim
/-- a temporary frozen -/
def mFz (m : MX Mv) : MX Mv := fun env => match m env with
  | .ok (_, d) e => .ok (.z, d) e
  | r => r
theorem sh_mFz {t : TE} (h : ShM E t m) : ShM E t (mFz m) := by
  intro σ H Q z
  obtain ⟨H0, HF, env, ts, fe, ft, s, k⟩ := tM_in z
  refine h (tM_out s ?_)
  unfold mFz at k
  cases hm : m env with
  | ok v e =>
    rw [hm] at k
    obtain ⟨kd, d⟩ := v
    intro H1 H01 u f g e0 s1
    obtain ⟨H02, ft2, e02, s2⟩ := S.freezeT s1
    exact k.ok (e0.trans e02) s2
  | exc C x e => rw [hm] at k; exact k
  | bad => rw [hm] at k; exact k

def asP (v : Mv) : Pv := (false, v.1, v.2)
def mOp1 (g : Pv → Option Pv) (m : MX Mv) : MX Mv := fun env => match m env with
  | .ok v e => match g (asP v) with
    | some (false, k, d) => .ok (k, d) e
    | _ => .bad
  | .exc C x e => .exc C x e
  | .bad => .bad
def mOp2 (g : Pv → Pv → Option Pv) (m n : MX Mv) : MX Mv := fun env => match m env with
  | .ok v e => match n e with
    | .ok w e' => match g (asP v) (asP w) with
      | some (false, k, d) => .ok (k, d) e'
      | _ => .bad
    | .exc C x e' => .exc C x e'
    | .bad => .bad
  | .exc C x e => .exc C x e
  | .bad => .bad
theorem rv_top {k : Kd} {d : D} {u : V} (s : S H0 HF H σ env ((k, d, u) :: ts) fe ft) : RV H0 H fe (asP (k, d)) u := RV.ofTop (v := (false, k, d)) rfl s
theorem sh_mOp1 {g : Pv → Option Pv} {r : V → Hp → VK → Prop} (h : PrOk (g1 g) (r1 r)) : ShM E (tUn r (tM E m)) (mOp1 g m) := by
  intro σ H Q z
  obtain ⟨H0, HF, env, ts, fe, ft, s, k⟩ := tM_in z
  refine tM_out s ?_
  unfold mOp1 at k
  cases hm : m env with
  | ok v e =>
    rw [hm] at k
    intro H1 H01 x fe1 ft1 e0 s1
    dsimp only at k
    split at k
    · rename_i kd d hg
      obtain ⟨ft2, s2, _⟩ := s1.pop
      obtain ⟨x', hx, q⟩ := h.ok (vs := [asP v]) (us := [x]) s2 ⟨x, [], rfl, rv_top s1, rfl⟩ hg Q fun H2 H02 u ft3 a b s3 r => k.ok (e0.trans a) s3
      cases hx
      exact q
    · exact k.elim
  | exc C x e => rw [hm] at k; exact k
  | bad => rw [hm] at k; exact k
theorem sh_mOp2 {g : Pv → Pv → Option Pv} {r : R2} (h : PrOk (g2 g) (r2 r)) : ShM E (tOp r (tM E m) (tM E n)) (mOp2 g m n) := by
  intro σ H Q z
  obtain ⟨H0, HF, env, ts, fe, ft, s, k⟩ := tM_in z
  refine tM_out s ?_
  unfold mOp2 at k
  cases hm : m env with
  | ok v e =>
    rw [hm] at k
    intro H1 H01 x fe1 ft1 e0 s1
    refine tM_out s1 ?_
    dsimp only at k
    cases hn : n e with
    | ok w e' =>
      rw [hn] at k
      intro H2 H02 y fe2 ft2 e02 s2
      dsimp only at k
      split at k
      · rename_i kd d hg
        obtain ⟨ft3, s3, _⟩ := s2.pop
        obtain ⟨ft4, s4, _⟩ := s3.pop
        obtain ⟨x', y', hxy, q⟩ := h.ok (vs := [asP v, asP w]) (us := [x, y]) s4 ⟨x, [y], rfl, rv_top s3, y, [], rfl, rv_top s2, rfl⟩ hg Q fun H2 H02 u ft3 a b s3 r => k.ok (e0.trans (e02.trans a)) s3
        cases hxy
        exact q
      · exact k.elim
    | exc C x' e' => rw [hn] at k; exact KX.drop1 [_] k e0
    | bad => rw [hn] at k; exact k
  | exc C x e => rw [hm] at k; exact k
  | bad => rw [hm] at k; exact k
def mNil : MX (List Mv) := fun env => .ok [] env
def mCons (m : MX Mv) (ms : MX (List Mv)) : MX (List Mv) := fun env => match m env with
  | .ok v e => match ms e with
    | .ok vs e' => .ok (v :: vs) e'
    | .exc C x e' => .exc C x e'
    | .bad => .bad
  | .exc C x e => .exc C x e
  | .bad => .bad
theorem sh_mNil {Q : List V → Hp → Prop} (z : tMA E mNil σ H Q) : tNil σ H Q := by
  obtain ⟨H0, HF, env, ts, fe, ft, s, k⟩ := tMA_in z
  exact k H H0 [] fe ft (Ex.refl _) rfl s
theorem sh_mCons {ms : MX (List Mv)} {Q : List V → Hp → Prop} (z : tMA E (mCons m ms) σ H Q) : tCons (tM E m) (tMA E ms) σ H Q := by
  obtain ⟨H0, HF, env, ts, fe, ft, s, k⟩ := tMA_in z
  refine tM_out s ?_
  unfold mCons at k
  cases hm : m env with
  | ok v e =>
    rw [hm] at k
    intro H1 H01 x fe1 ft1 e0 s1
    refine tMA_out s1 ?_
    dsimp only at k
    cases hn : ms e with
    | ok vs e' =>
      rw [hn] at k
      intro H2 H02 ys fe2 ft2 e02 hl s2
      refine k H2 H02 (x :: ys) fe2 ft2 (e0.trans e02) (by simp [hl]) (s2.perm ?_)
      exact List.perm_middle
    | exc C x' e' => rw [hn] at k; exact KX.drop1 [_] k e0
    | bad => rw [hn] at k; exact k
  | exc C x e => rw [hm] at k; exact k
  | bad => rw [hm] at k; exact k
def mOpN (g : List Pv → Option Pv) (ms : MX (List Mv)) : MX Mv := fun env => match ms env with
  | .ok vs e => match g (vs.map asP) with
    | some (false, k, d) => .ok (k, d) e
    | _ => .bad
  | .exc C x e => .exc C x e
  | .bad => .bad
theorem zipT_rvs : ∀ {vs : List Mv} {us : List V} {f : Fp}, us.length = vs.length → RkT H0 H (zipT vs us) f → RVs H0 H fe (vs.map asP) us
  | [], [], _, _, _ => rfl
  | v :: vs, u :: us, f, hl, h => by
    obtain ⟨f1, f2, q1, q2, q3⟩ := h
    exact ⟨u, us, rfl, ⟨f1, q1, fun z => nomatch z⟩, zipT_rvs (by simpa using hl) q2⟩
  | [], _ :: _, _, hl, _ => by cases hl
  | _ :: _, [], _, hl, _ => by cases hl
theorem sh_mOpN {g : List Pv → Option Pv} {r : List V → Hp → VK → Prop} {ms : MX (List Mv)} (h : PrOk g r) : ShM E (tCB r (tMA E ms)) (mOpN g ms) := by
  intro σ H Q z
  obtain ⟨H0, HF, env, ts, fe, ft, s, k⟩ := tM_in z
  refine tMA_out s ?_
  unfold mOpN at k
  cases hm : ms env with
  | ok vs e =>
    rw [hm] at k
    intro H1 H01 us fe1 ft1 e0 hl s1
    dsimp only at k
    split at k
    · rename_i kd d hg
      obtain ⟨g1, g2, q1, q2, q3⟩ := s1.tmp.split
      obtain ⟨ft2, s2, _⟩ := s1.drop
      exact h.ok s2 (zipT_rvs hl q1) hg Q fun H2 H02 u ft3 a b s3 r => k.ok (e0.trans a) s3
    · exact k.elim
  | exc C x e => rw [hm] at k; exact k
  | bad => rw [hm] at k; exact k

/-! tests -/
def mtP (p : Env → Option Bool) : MX Bool := fun env => match p env with
  | some b => .ok b env
  | none => .bad
theorem sh_mtP {p : Env → Option Bool} {Q : Bool → Hp → Prop} (z : tMT E (mtP p) σ H Q) : tPT p σ H Q := by
  obtain ⟨H0, HF, env, ts, fe, ft, s, k⟩ := tMT_in z
  unfold mtP at k
  cases hp : p env with
  | none => rw [hp] at k; exact k.elim
  | some b => rw [hp] at k; exact ⟨H0, HF, env, ts, fe, ft, b, s, hp, fun H1 H01 ft1 e0 e s1 => k H1 H01 fe ft1 e0 s1⟩
def mtTru (m : MX Mv) : MX Bool := fun env => match m env with
  | .ok v e => match gTru (asP v) with
    | some b => .ok b e
    | none => .bad
  | .exc C x e => .exc C x e
  | .bad => .bad
def mtTst (m : MX Mv) : MX Bool := fun env => match m env with
  | .ok (_, .bl b) e => .ok b e
  | .ok _ _ => .bad
  | .exc C x e => .exc C x e
  | .bad => .bad
theorem sh_mtTst {Q : Bool → Hp → Prop} (z : tMT E (mtTst m) σ H Q) : tM E m σ H fun x H' => ∃ k, x = .bl k ∧ Q k H' := by
  obtain ⟨H0, HF, env, ts, fe, ft, s, k⟩ := tMT_in z
  refine tM_out s ?_
  unfold mtTst at k
  cases hm : m env with
  | ok v e =>
    rw [hm] at k
    obtain ⟨kd, d⟩ := v
    intro H1 H01 x fe1 ft1 e0 s1
    split at k
    · rename_i b e2 he
      cases he
      obtain ⟨ft2, s2, _⟩ := s1.pop
      have r := (rv_top s1).rf s1.sub
      exact ⟨b, r, k H1 H01 fe1 ft2 e0 s2⟩
    · exact k.elim
    · rename_i he; cases he
    · rename_i he; cases he
  | exc C x e => rw [hm] at k; exact k
  | bad => rw [hm] at k; exact k
theorem sh_mtTru {K : PySem.W.Frag} {Q : Bool → Hp → Prop} (z : tMT E (mtTru m) σ H Q) : tM E m σ H fun x H' => ∃ k, TruV K x H' k ∧ Q k H' := by
  obtain ⟨H0, HF, env, ts, fe, ft, s, k⟩ := tMT_in z
  refine tM_out s ?_
  unfold mtTru at k
  cases hm : m env with
  | ok v e =>
    rw [hm] at k
    intro H1 H01 x fe1 ft1 e0 s1
    dsimp only at k
    cases hg : gTru (asP v) with
    | none => rw [hg] at k; exact k.elim
    | some b =>
      rw [hg] at k
      obtain ⟨ft2, s2, _⟩ := s1.pop
      exact ⟨b, gTru_ok (H0 := H01) (fe := fe1) ((rv_top s1).rf s1.sub) hg, k H1 H01 fe1 ft2 e0 s2⟩
  | exc C x e => rw [hm] at k; exact k
  | bad => rw [hm] at k; exact k
def mAnd (m n : MX Bool) : MX Bool := fun env => match m env with
  | .ok true e => n e
  | r => r
def mOr (m n : MX Bool) : MX Bool := fun env => match m env with
  | .ok false e => n e
  | r => r
def mNot (m : MX Bool) : MX Bool := fun env => match m env with
  | .ok b e => .ok (!b) e
  | r => r
theorem KMT.at {Q : Bool → Hp → Prop} {n : MX Bool} {e : Env} (k : KMT H0 HF σ ts E Q (n e)) (e0 : Ex H0 H0') (s : S H0' HF H' σ e ts fe ft) : tMT E n σ H' Q := tMT_out s (k.drop e0)
theorem KM.at {Q : VK} {n : MX Mv} {e : Env} (k : KM H0 HF σ ts E Q (n e)) (e0 : Ex H0 H0') (s : S H0' HF H' σ e ts fe ft) : tM E n σ H' Q := tM_out s (k.drop e0)
variable {a b : MX Bool}
theorem sh_mAnd {Q : Bool → Hp → Prop} (z : tMT E (mAnd a b) σ H Q) : tAnd (tMT E a) (tMT E b) σ H Q := by
  obtain ⟨H0, HF, env, ts, fe, ft, s, k⟩ := tMT_in z
  refine tMT_out s ?_
  unfold mAnd at k
  cases hm : a env with
  | ok v e =>
    rw [hm] at k
    cases v with
    | true => exact fun H1 H01 fe1 ft1 e0 s1 => iteT (KMT.at k e0 s1)
    | false => exact fun H1 H01 fe1 ft1 e0 s1 => iteF (k H1 H01 fe1 ft1 e0 s1)
  | exc C x e => rw [hm] at k; exact k
  | bad => rw [hm] at k; exact k
theorem sh_mOr {Q : Bool → Hp → Prop} (z : tMT E (mOr a b) σ H Q) : tOr (tMT E a) (tMT E b) σ H Q := by
  obtain ⟨H0, HF, env, ts, fe, ft, s, k⟩ := tMT_in z
  refine tMT_out s ?_
  unfold mOr at k
  cases hm : a env with
  | ok v e =>
    rw [hm] at k
    cases v with
    | true => exact fun H1 H01 fe1 ft1 e0 s1 => iteT (k H1 H01 fe1 ft1 e0 s1)
    | false => exact fun H1 H01 fe1 ft1 e0 s1 => iteF (KMT.at k e0 s1)
  | exc C x e => rw [hm] at k; exact k
  | bad => rw [hm] at k; exact k
theorem sh_mNot {Q : Bool → Hp → Prop} (z : tMT E (mNot a) σ H Q) : tNot (tMT E a) σ H Q := by
  obtain ⟨H0, HF, env, ts, fe, ft, s, k⟩ := tMT_in z
  refine tMT_out s ?_
  unfold mNot at k
  cases hm : a env with
  | ok v e => rw [hm] at k; exact k
  | exc C x e => rw [hm] at k; exact k
  | bad => rw [hm] at k; exact k
/-- as values -/
def mAndV (m n : MX Mv) : MX Mv := fun env => match m env with
  | .ok (_, .bl true) e => n e
  | .ok (_, .bl false) e => .ok (.z, .bl false) e
  | .ok _ _ => .bad
  | r => r
def mOrV (m n : MX Mv) : MX Mv := fun env => match m env with
  | .ok (_, .bl true) e => .ok (.z, .bl true) e
  | .ok (_, .bl false) e => n e
  | .ok _ _ => .bad
  | r => r
def mNotV (m : MX Mv) : MX Mv := fun env => match m env with
  | .ok (_, .bl b) e => .ok (.z, .bl (!b)) e
  | .ok _ _ => .bad
  | r => r
def mIf (t : MX Bool) (m n : MX Mv) : MX Mv := fun env => match t env with
  | .ok true e => m e
  | .ok false e => n e
  | .exc C x e => .exc C x e
  | .bad => .bad
theorem sh_mAndV : ShM E (tAndV (tM E m) (tM E n)) (mAndV m n) := by
  intro σ H Q z
  obtain ⟨H0, HF, env, ts, fe, ft, s, k⟩ := tM_in z
  refine tM_out s ?_
  unfold mAndV at k
  cases hm : m env with
  | ok v e =>
    rw [hm] at k
    obtain ⟨kd, d⟩ := v
    intro H1 H01 x fe1 ft1 e0 s1
    have r := (rv_top s1).rf s1.sub
    obtain ⟨ft2, s2, _⟩ := s1.pop
    cases d with
    | bl b =>
      cases b with
      | true => exact ⟨true, r, iteT (KM.at k e0 s2)⟩
      | false => exact ⟨false, r, iteF (k.ok e0 (s2.pushZ rfl))⟩
    | _ => exact k.elim
  | exc C x e => rw [hm] at k; exact k
  | bad => rw [hm] at k; exact k
theorem sh_mOrV : ShM E (tOrV (tM E m) (tM E n)) (mOrV m n) := by
  intro σ H Q z
  obtain ⟨H0, HF, env, ts, fe, ft, s, k⟩ := tM_in z
  refine tM_out s ?_
  unfold mOrV at k
  cases hm : m env with
  | ok v e =>
    rw [hm] at k
    obtain ⟨kd, d⟩ := v
    intro H1 H01 x fe1 ft1 e0 s1
    have r := (rv_top s1).rf s1.sub
    obtain ⟨ft2, s2, _⟩ := s1.pop
    cases d with
    | bl b =>
      cases b with
      | true => exact ⟨true, r, iteT (k.ok e0 (s2.pushZ rfl))⟩
      | false => exact ⟨false, r, iteF (KM.at k e0 s2)⟩
    | _ => exact k.elim
  | exc C x e => rw [hm] at k; exact k
  | bad => rw [hm] at k; exact k
theorem sh_mNotV : ShM E (tNotV (tM E m)) (mNotV m) := by
  intro σ H Q z
  obtain ⟨H0, HF, env, ts, fe, ft, s, k⟩ := tM_in z
  refine tM_out s ?_
  unfold mNotV at k
  cases hm : m env with
  | ok v e =>
    rw [hm] at k
    obtain ⟨kd, d⟩ := v
    intro H1 H01 x fe1 ft1 e0 s1
    have r := (rv_top s1).rf s1.sub
    obtain ⟨ft2, s2, _⟩ := s1.pop
    cases d with
    | bl b => exact ⟨b, r, k.ok e0 (s2.pushZ rfl)⟩
    | _ => exact k.elim
  | exc C x e => rw [hm] at k; exact k
  | bad => rw [hm] at k; exact k
theorem sh_mIf : ShM E (tIf (tMT E a) (tM E m) (tM E n)) (mIf a m n) := by
  intro σ H Q z
  obtain ⟨H0, HF, env, ts, fe, ft, s, k⟩ := tM_in z
  refine tMT_out s ?_
  unfold mIf at k
  cases hm : a env with
  | ok v e =>
    rw [hm] at k
    cases v with
    | true => exact fun H1 H01 fe1 ft1 e0 s1 => iteT (KM.at k e0 s1)
    | false => exact fun H1 H01 fe1 ft1 e0 s1 => iteF (KM.at k e0 s1)
  | exc C x e => rw [hm] at k; exact k
  | bad => rw [hm] at k; exact k
end

/-! ### rules of the layer -/
section
variable {X : Cx} {E : XK} {e a b c : Expr} {pos : Pos} {m n w : MX Mv} {rest : List Expr}
theorem em_P {p : PX} (h : PE X e (tP p)) : PE X e (tM E (mP p)) := pe_mono h fun _ _ _ z => sh_mP z
theorem em_mov (i : Nat) (h : PE X e (tVar i)) : PE X e (tM E (mMov i)) := pe_mono h fun _ _ _ z => sh_mMov z
theorem em_tak (i : Nat) (h : PE X e (tVar i)) : PE X e (tM E (mTak i)) := pe_mono h fun _ _ _ z => sh_mTak z
theorem em_fz (h : PE X e (tM E m)) : PE X e (tM E (mFz m)) := pe_mono h fun _ _ _ z => sh_mFz (fun q => q) z
theorem em_bin {op : Operator} {r : R2} {g : Pv → Pv → Option Pv} (ho : OpR X (binaryOp op) r) (h : PrOk (g2 g) (r2 r)) (ha : PE X a (tM E m)) (hb : PE X b (tM E n)) : PE X (.BinOp a op b pos) (tM E (mOp2 g m n)) :=
  pe_mono (pe_op ho ha hb) fun _ _ _ z => sh_mOp2 h z
theorem em_un {op : UnaryOp} {r : V → Hp → VK → Prop} {g : Pv → Option Pv} (ho : UnR X (unaryOp op) r) (h : PrOk (g1 g) (r1 r)) (ha : PE X a (tM E m)) : PE X (.UnaryOp op a pos) (tM E (mOp1 g m)) :=
  pe_mono (pe_un ho ha) fun _ _ _ z => sh_mOp1 h z
theorem em_cmp {op : CmpOp} {r : R2} {g : Pv → Pv → Option Pv} (ho : OpR X (compareOp op) r) (h : PrOk (g2 g) (r2 r)) (ha : PE X a (tM E m)) (hb : PE X b (tM E n)) (hm : behindInMarks op b = false) : PE X (.Compare a [op] [b] pos) (tM E (mOp2 g m n)) :=
  pe_mono (pe_cmpR ho ha hb hm) fun _ _ _ z => sh_mOp2 h z
theorem em_ix (ha : PE X a (tM E m)) (hb : PE X b (tM E n)) (hs : PlainIx b := by intro _ _; rfl) : PE X (.Subscript a b pos) (tM E (mOp2 gIx m n)) :=
  pe_mono (pe_ix ix_seq ha hb hs) fun _ _ _ z => sh_mOp2 ok_ix z
theorem am_nil : PA X [] (tMA E mNil) := pa_mono pa_nil fun _ _ _ z => sh_mNil z
theorem am_cons {es : List Expr} {ms : MX (List Mv)} (ha : PE X e (tM E m)) (hr : PA X es (tMA E ms)) (hs : starEach (e :: es) X.env = (false, eval e X.env) :: starEach es X.env := by rfl) : PA X (e :: es) (tMA E (mCons m ms)) :=
  pa_mono (pa_cons ha hr hs) fun _ _ _ q => sh_mCons q
theorem em_callB {x : Str} {pp : Pos} {es : List Expr} {id : String} {g : List Pv → Option Pv} {r : List V → Hp → VK → Prop} {ms : MX (List Mv)} (hc : CallR X (.builtin id) r) (h : PrOk g r) (hg : Gl X x) (hm : X.mg x = none) (hv : bootBuiltins x = some (.builtin id)) (ha : PA X (e :: es) (tMA E ms)) (hn : x ≠ "__name__" := by decide) (hdb : (x == ("__debug__" : Str)) = false := by decide)
    (he : starEach (e :: es) X.env = (false, eval e X.env) :: starEach es X.env := by rfl) (hpl : (backTo pos (starEach es X.env)).any (·.1) = false := by rfl) : PE X (.Call (.Name x pp) (e :: es) [] pos) (tM E (mOpN g ms)) :=
  pe_mono (pe_callB hc hg hm hv ha hn hdb he hpl) fun _ _ _ z => sh_mOpN h z
theorem em_callTy {x : Str} {pp : Pos} {es : List Expr} {T : String} {g : List Pv → Option Pv} {r : List V → Hp → VK → Prop} {ms : MX (List Mv)} (hc : CallR X (.type T) r) (h : PrOk g r) (hg : Gl X x) (hm : X.mg x = none) (hv : bootBuiltins x = some (.type T)) (ha : PA X (e :: es) (tMA E ms)) (hn : x ≠ "__name__" := by decide) (hdb : (x == ("__debug__" : Str)) = false := by decide)
    (he : starEach (e :: es) X.env = (false, eval e X.env) :: starEach es X.env := by rfl) (hpl : (backTo pos (starEach es X.env)).any (·.1) = false := by rfl) : PE X (.Call (.Name x pp) (e :: es) [] pos) (tM E (mOpN g ms)) :=
  pe_mono (pe_callTy hc hg hm hv ha hn hdb he hpl) fun _ _ _ z => sh_mOpN h z
theorem em_lst {es : List Expr} {ms : MX (List Mv)} (h : PA X es (tMA E ms)) : PE X (.List es pos) (tM E (mOpN gLst ms)) := pe_mono (pe_lst h) fun _ _ _ z => sh_mOpN ok_lst z
theorem em_tup {es : List Expr} {x1} {ms : MX (List Mv)} (h : PA X es (tMA E ms)) : PE X (.Tuple es x1 pos) (tM E (mOpN gTup ms)) := pe_mono (pe_tup h) fun _ _ _ z => sh_mOpN ok_tup z
theorem em_and (ha : PE X a (tM E m)) (hb : PE X (.BoolOp .And (b :: rest) pos) (tM E n)) : PE X (.BoolOp .And (a :: b :: rest) pos) (tM E (mAndV m n)) := pe_mono (pe_and ha hb) fun _ _ _ z => sh_mAndV z
theorem em_or (ha : PE X a (tM E m)) (hb : PE X (.BoolOp .Or (b :: rest) pos) (tM E n)) : PE X (.BoolOp .Or (a :: b :: rest) pos) (tM E (mOrV m n)) := pe_mono (pe_or ha hb) fun _ _ _ z => sh_mOrV z
theorem em_one {op : BoolOp} (h : PE X a (tM E m)) : PE X (.BoolOp op [a] pos) (tM E m) := pe_one h
theorem em_not (ha : PE X a (tM E m)) : PE X (.UnaryOp .Not a pos) (tM E (mNotV m)) := pe_mono (pe_not ha) fun _ _ _ z => sh_mNotV z
theorem em_if {tt : Expr} {t : MX Bool} (ht : PT X tt (tMT E t)) (ha : PE X a (tM E m)) (hb : PE X b (tM E n)) : PE X (.IfExp tt a b pos) (tM E (mIf t m n)) := pe_mono (pe_ifExp ht ha hb) fun _ _ _ z => sh_mIf z
variable {t u : MX Bool}
theorem tm_P {p : Env → Option Bool} (h : PT X e (tPT p)) : PT X e (tMT E (mtP p)) := pt_mono h fun _ _ _ z => sh_mtP z
theorem tm_truth (ha : PE X a (tM E m)) (he : ∀ whole, isTrue a X.env whole = (do let v ← whole; standAt a.pos; holding [v] (truthy v)) := by intro _; rfl) : PT X a (tMT E (mtTru m)) :=
  pt_mono (pt_truth ha he) fun _ _ _ z => sh_mtTru z
theorem tm_cmp {op : CmpOp} {r : R2} {g : Pv → Pv → Option Pv} (ho : OpR X (compareOp op) r) (h : PrOk (g2 g) (r2 r)) (ha : PE X a (tM E m)) (hb : PE X b (tM E n)) (hm : behindInMarks op b = false) : PT X (.Compare a [op] [b] pos) (tMT E (mtTst (mOp2 g m n))) :=
  pt_mono (pt_cmpR ho ha hb hm) fun _ _ _ z => sh_mOp2 h (sh_mtTst z)
theorem tm_not (ha : PT X a (tMT E t)) : PT X (.UnaryOp .Not a pos) (tMT E (mNot t)) := pt_mono (pt_not ha) fun _ _ _ z => sh_mNot z
theorem wm_and1 (ha : PT X a (tMT E t)) : PW X (.BoolOp .And [a] pos) (tMT E t) := pw_and1 ha
theorem wm_or1 (ha : PT X a (tMT E t)) : PW X (.BoolOp .Or [a] pos) (tMT E t) := pw_or1 ha
theorem wm_and (ha : PT X a (tMT E t)) (hb : PW X (.BoolOp .And (b :: rest) pos) (tMT E u)) : PW X (.BoolOp .And (a :: b :: rest) pos) (tMT E (mAnd t u)) := pw_mono (pw_and ha hb) fun _ _ _ z => sh_mAnd z
theorem wm_or (ha : PT X a (tMT E t)) (hb : PW X (.BoolOp .Or (b :: rest) pos) (tMT E u)) : PW X (.BoolOp .Or (a :: b :: rest) pos) (tMT E (mOr t u)) := pw_mono (pw_or ha hb) fun _ _ _ z => sh_mOr z
end
end Vt

set_option Elab.async false
set_option linter.all false
set_option autoImplicit false
set_option maxRecDepth 100000
set_option maxHeartbeats 1000000
/-! Vt9: statements. -/
namespace Vt
open PySem L2

section
variable {H0 HF H H0' H' : Hp} {σ σ' : L2.St} {env : Env} {ts : List Tm} {fe ft : Fp} {E : XK} {pd : List Nat} {m n : MX Mv} {D : Ends}
theorem KSR.drop {r : SR} (k : KSR H0 HF pd σ ts E D r) (e0 : Ex H0 H0') (p : Pin pd σ σ') : KSR H0' HF pd σ' ts E D r := by
  cases r with
  | nx e => exact fun σ2 H2 H02 f g a b s => k σ2 H2 H02 f g (e0.trans a) (p.trans b) s
  | rt v e => exact fun σ2 H2 H02 u f g a b s => k σ2 H2 H02 u f g (e0.trans a) (p.trans b) s
  | bk e => exact fun σ2 H2 H02 f g a b s => k σ2 H2 H02 f g (e0.trans a) (p.trans b) s
  | ct e => exact fun σ2 H2 H02 f g a b s => k σ2 H2 H02 f g (e0.trans a) (p.trans b) s
  | exc C x e => exact fun d σ2 H2 H02 f g a b s r => k d σ2 H2 H02 f g (e0.trans a) (p.trans b) s r
  | bad => exact k
theorem KSR.nx {e : Env} (k : KSR H0 HF pd σ ts E D (.nx e)) (e0 : Ex H0 H0') (p : Pin pd σ σ') (s : S H0' HF H' σ' e ts fe ft) : D.nx σ' H' := k σ' H' H0' fe ft e0 p s
theorem KSR.exc {C : Addr} {xd : Vt.D} {e : Env} (k : KSR H0 HF pd σ ts E D (.exc C xd e)) : KX H0 HF σ ts E C xd e := fun d H2 H02 f g a s r => k d σ H2 H02 f g a Pin.refl s r
def seqS (m n : SX) : SX := fun env => match m env with
  | .nx e => n e
  | r => r
theorem sh_seq {m n : SX} (z : tS E pd (seqS m n) D σ H) : tSeq (tS E pd m) (tS E pd n) D σ H := by
  obtain ⟨H0, HF, env, ts, fe, ft, s, k⟩ := z
  refine ⟨H0, HF, env, ts, fe, ft, s, ?_⟩
  unfold seqS at k
  cases h : m env with
  | nx e =>
    rw [h] at k
    exact fun σ2 H2 H02 f g a b s2 => ⟨H02, HF, e, ts, f, g, s2, KSR.drop k a b⟩
  | rt v e => rw [h] at k; exact k
  | bk e => rw [h] at k; exact k
  | ct e => rw [h] at k; exact k
  | exc C x e => rw [h] at k; exact k
  | bad => rw [h] at k; exact k
def passS : SX := fun env => .nx env
theorem sh_pass (z : tS E pd passS D σ H) : tNext D σ H := by
  obtain ⟨H0, HF, env, ts, fe, ft, s, k⟩ := z
  exact KSR.nx k (Ex.refl _) Pin.refl s
def breakS : SX := fun env => .bk env
def contS : SX := fun env => .ct env
theorem sh_break (z : tS E pd breakS D σ H) : tBreak D σ H := by
  obtain ⟨H0, HF, env, ts, fe, ft, s, k⟩ := z
  exact k σ H H0 fe ft (Ex.refl _) Pin.refl s
theorem sh_cont (z : tS E pd contS D σ H) : tCont D σ H := by
  obtain ⟨H0, HF, env, ts, fe, ft, s, k⟩ := z
  exact k σ H H0 fe ft (Ex.refl _) Pin.refl s
/-- a way that is not taken -/
def neverS : SX := fun _ => .bad
theorem sh_never (z : tS E pd neverS D σ H) : tNever D σ H := by
  obtain ⟨H0, HF, env, ts, fe, ft, s, k⟩ := z
  exact k
def fzK (fz : Bool) (k : Kd) : Kd := if fz then .z else k
theorem S.fz {k : Kd} {d : Vt.D} {v : V} (fz : Bool) (s : S H0 HF H σ env ((k, d, v) :: ts) fe ft) : ∃ H0' ft', Ex H0 H0' ∧ S H0' HF H σ env ((fzK fz k, d, v) :: ts) fe ft' := by
  cases fz with
  | true => exact s.freezeT
  | false => exact ⟨H0, ft, Ex.refl _, s⟩
def asgS (i : Nat) (fz : Bool) (m : MX Mv) : SX := fun env => match m env with
  | .ok v e => .nx (e.put i (.val (fzK fz v.1) v.2))
  | .exc C x e => .exc C x e
  | .bad => .bad
theorem sh_asg {te : TE} {i : Nat} {fz : Bool} (h : ShM E te m) (hp : pd.contains i = false) (z : tS E pd (asgS i fz m) D σ H) : tAsg te (gName i) D σ H := by
  obtain ⟨H0, HF, env, ts, fe, ft, s, k⟩ := z
  refine h (tM_out s ?_)
  unfold asgS at k
  cases hm : m env with
  | ok v e =>
    rw [hm] at k
    intro H1 H01 x fe1 ft1 e0 s1
    obtain ⟨H02, ft2, e02, s2⟩ := s1.fz fz
    obtain ⟨fe3, ft3, s3, _⟩ := s2.store (i := i)
    exact KSR.nx k (e0.trans e02) (Pin.set hp) s3
  | exc C x e => rw [hm] at k; exact KSR.exc k
  | bad => rw [hm] at k; exact k
def asgP (pt : Pat) (m : MX Mv) : SX := fun env => match m env with
  | .ok v e => match bnd pt v.2 e with
    | some e' => .nx e'
    | none => .bad
  | .exc C x e => .exc C x e
  | .bad => .bad
theorem Pin.of {pt : Pat} (hp : pt.slots.all (fun i => !pd.contains i) = true) (h : ∀ i, i ∉ pt.slots → σ'[i]? = σ[i]?) : Pin pd σ σ' := fun i hi => h i fun hm => by
  have := List.all_eq_true.mp hp i hm
  simp [hi] at this
theorem sh_asgP {te : TE} {pt : Pat} (h : ShM E te m) (hp : pt.slots.all (fun i => !pd.contains i) = true) (z : tS E pd (asgP pt m) D σ H) : tAsg te (tG pt) D σ H := by
  obtain ⟨H0, HF, env, ts, fe, ft, s, k⟩ := z
  refine h (tM_out s ?_)
  unfold asgP at k
  cases hm : m env with
  | ok v e =>
    rw [hm] at k
    dsimp only at k
    obtain ⟨kd, d⟩ := v
    cases hb : bnd pt d e with
    | none => rw [hb] at k; exact k.elim
    | some e' =>
      rw [hb] at k
      intro H1 H01 x fe1 ft1 e0 s1
      obtain ⟨H02, ft2, e02, s2⟩ := S.freezeT s1
      obtain ⟨f1, f2, r, _⟩ := id s2.tmp
      obtain ⟨ft3, s3, _⟩ := s2.pop
      exact ⟨H02, HF, e, ts, fe1, ft3, d, e', s3, (Rk.z_iff.mp r).1, hb, fun σ4 fe4 ft4 s4 hσ _ => KSR.nx k (e0.trans e02) (Pin.of hp hσ) s4⟩
  | exc C x e => rw [hm] at k; exact KSR.exc k
  | bad => rw [hm] at k; exact k
/-- x op= e, ints -/
def augS (i : Nat) (f : Int → Int → Int) (ok : Int → Int → Bool) (m : MX Mv) : SX := fun env => match env[i]? with
  | some (.val .z (.int a)) => match m env with
    | .ok (_, .int b) e => if ok a b = true then .nx (e.put i (.val .z (.int (f a b)))) else .bad
    | .ok _ _ => .bad
    | .exc C x e => .exc C x e
    | .bad => .bad
  | _ => .bad
theorem sh_aug {i : Nat} {f : Int → Int → Int} {ok : Int → Int → Bool} {C : Int → Int → Prop} {te : TE} (h : ShM E te m) (hp : pd.contains i = false) (hC : ∀ a b, ok a b = true → C a b) (z : tS E pd (augS i f ok m) D σ H) : tAug i te (rI C fun a b => .int (f a b)) D σ H := by
  obtain ⟨H0, HF, env, ts, fe, ft, s, k⟩ := z
  unfold augS at k
  split at k
  · rename_i a ha
    obtain ⟨v, f1, hv, r, _⟩ := s.re.get ha
    have ev : v = .int a := (Rk.z_iff.mp r).1
    subst ev
    refine ⟨_, hv, h (tM_out s ?_)⟩
    cases hm : m env with
    | ok w e =>
      rw [hm] at k
      obtain ⟨kd, d⟩ := w
      intro H1 H01 x fe1 ft1 e0 s1
      cases d with
      | int b =>
        dsimp only at k
        have r := (rv_top s1).rf s1.sub
        have er : x = .int b := r
        subst er
        split at k
        · rename_i hok
          refine ⟨a, b, rfl, rfl, hC a b hok, ?_⟩
          obtain ⟨ft2, s2, _⟩ := s1.pop
          obtain ⟨fe3, ft3, s3, _⟩ := (s2.pushZ (d := .int (f a b)) (v := .int (f a b)) rfl).store (i := i)
          exact KSR.nx k e0 (Pin.set hp) s3
        · exact k.elim
      | _ => exact k.elim
    | exc C x e => rw [hm] at k; exact KSR.exc k
    | bad => rw [hm] at k; exact k
  · exact k.elim
def exS (m : MX Mv) : SX := fun env => match m env with
  | .ok _ e => .nx e
  | .exc C x e => .exc C x e
  | .bad => .bad
theorem sh_ex {te : TE} (h : ShM E te m) (z : tS E pd (exS m) D σ H) : tDrop te D σ H := by
  obtain ⟨H0, HF, env, ts, fe, ft, s, k⟩ := z
  refine h (tM_out s ?_)
  unfold exS at k
  cases hm : m env with
  | ok v e =>
    rw [hm] at k
    intro H1 H01 x fe1 ft1 e0 s1
    obtain ⟨ft2, s2, _⟩ := s1.pop
    exact KSR.nx k e0 Pin.refl s2
  | exc C x e => rw [hm] at k; exact KSR.exc k
  | bad => rw [hm] at k; exact k
def rtS (fz : Bool) (m : MX Mv) : SX := fun env => match m env with
  | .ok v e => .rt (fzK fz v.1, v.2) e
  | .exc C x e => .exc C x e
  | .bad => .bad
theorem sh_rt {te : TE} {fz : Bool} (h : ShM E te m) (z : tS E pd (rtS fz m) D σ H) : tRet te D σ H := by
  obtain ⟨H0, HF, env, ts, fe, ft, s, k⟩ := z
  refine h (tM_out s ?_)
  unfold rtS at k
  cases hm : m env with
  | ok v e =>
    rw [hm] at k
    intro H1 H01 x fe1 ft1 e0 s1
    obtain ⟨H02, ft2, e02, s2⟩ := s1.fz fz
    exact k σ H1 H02 x fe1 ft2 (e0.trans e02) Pin.refl s2
  | exc C x e => rw [hm] at k; exact KSR.exc k
  | bad => rw [hm] at k; exact k
def rtN : SX := fun env => .rt (.z, .non) env
theorem sh_rtN (z : tS E pd rtN D σ H) : tRetN D σ H := by
  obtain ⟨H0, HF, env, ts, fe, ft, s, k⟩ := z
  exact k σ H H0 .non fe ft (Ex.refl _) Pin.refl (s.pushZ rfl)
def ifS (t : MX Bool) (a b : SX) : SX := fun env => match t env with
  | .ok true e => a e
  | .ok false e => b e
  | .exc C x e => .exc C x e
  | .bad => .bad
theorem sh_if {t : MX Bool} {a b : SX} (z : tS E pd (ifS t a b) D σ H) : tIfS (tMT E t) (tS E pd a) (tS E pd b) D σ H := by
  obtain ⟨H0, HF, env, ts, fe, ft, s, k⟩ := z
  refine tMT_out s ?_
  unfold ifS at k
  cases hm : t env with
  | ok v e =>
    rw [hm] at k
    cases v with
    | true => exact fun H1 H01 fe1 ft1 e0 s1 => iteT ⟨H01, HF, e, ts, fe1, ft1, s1, KSR.drop k e0 Pin.refl⟩
    | false => exact fun H1 H01 fe1 ft1 e0 s1 => iteF ⟨H01, HF, e, ts, fe1, ft1, s1, KSR.drop k e0 Pin.refl⟩
  | exc C x e => rw [hm] at k; exact KSR.exc k
  | bad => rw [hm] at k; exact k

/-! loops -/
def tMI (E : XK) (it : MX (List Vt.D)) : TI := fun σ H R => ∃ H0 HF env ts fe ft, S H0 HF H σ env ts fe ft ∧ match it env with
  | .ok ds env' => ∀ J H' H0' fe' ft', Ex H0 H0' → S H0' HF H' σ env' ts fe' ft' → Walks H0' H0' J ds → R J H'
  | .exc C x env' => KX H0 HF σ ts E C x env'
  | .bad => False
def forGo (pt : Pat) (body : SX) : List Vt.D → Env → SR
  | [], e => .nx e
  | d :: ds, e => match bnd pt d e with
    | none => .bad
    | some e1 => match body e1 with
      | .nx e2 => forGo pt body ds e2
      | .ct e2 => forGo pt body ds e2
      | .bk e2 => .nx e2
      | r => r
def forS (pt : Pat) (it : MX (List Vt.D)) (body : SX) : SX := fun env => match it env with
  | .ok ds e => forGo pt body ds e
  | .exc C x e => .exc C x e
  | .bad => .bad
theorem sh_for {pt : Pat} {it : MX (List Vt.D)} {body : SX} (hp : pt.slots.all (fun i => !pd.contains i) = true) (z : tS E pd (forS pt it body) D σ H) : tFor (tMI E it) (tG pt) (tS E pd body) D σ H := by
  obtain ⟨H0, HF, env, ts, fe, ft, s, k⟩ := z
  refine ⟨H0, HF, env, ts, fe, ft, s, ?_⟩
  unfold forS at k
  cases hm : it env with
  | exc C x e => rw [hm] at k; exact KSR.exc k
  | bad => rw [hm] at k; exact k
  | ok ds e =>
  rw [hm] at k
  intro J H1 H01 fe1 ft1 e0 s1 w
  refine ⟨fun i m σ' H' => m = ds.length - i ∧ i ≤ ds.length ∧ ∃ H0i ei fei fti, Ex H01 H0i ∧ Pin pd σ σ' ∧ S H0i HF H' σ' ei ts fei fti ∧ KSR H01 HF pd σ ts E D (forGo pt body (ds.drop i) ei),
    ⟨_, rfl, Nat.zero_le _, H01, e, fe1, ft1, Ex.refl _, Pin.refl, s1, KSR.drop k e0 Pin.refl⟩, ?_⟩
  rintro i m σ' H' ⟨rfl, hi, H0i, ei, fei, fti, e0i, pi, si, ki⟩
  obtain ⟨w1, w2⟩ := w i H' (e0i.trans si.sub) (e0i.trans si.sub)
  by_cases hlt : i < ds.length
  · obtain ⟨d, hd⟩ : ∃ d, ds[i]? = some d := ⟨ds[i], by simp [hlt]⟩
    obtain ⟨hgo', hy⟩ := w1 d hd
    have hdrop : ds.drop i = d :: ds.drop (i + 1) := by
      rw [List.drop_eq_getElem_cons hlt]
      congr 1
      exact (List.getElem?_eq_some_iff.mp hd).2
    rw [hdrop] at ki
    unfold forGo at ki
    refine .inr ⟨hgo', fun σ' H' => ∃ H0i ei fei fti, Ex H01 H0i ∧ Pin pd σ σ' ∧ S H0i HF H' σ' ei ts fei fti ∧ KSR H01 HF pd σ ts E D (forGo pt body (ds.drop (i + 1)) ei), fun σ' H' q => ⟨ds.length - (i + 1), by omega, rfl, hlt, q⟩, fun x H'' y => ?_⟩
    obtain ⟨H02, e02, e2, s2, r2⟩ := si.yield (by
      rcases hy x H'' y with ⟨a, b⟩ | ⟨p, vs, xs', a, b, c, dd, ee⟩
      · exact .inl ⟨a, b.mono e0i⟩
      · exact .inr ⟨p, vs, xs', a, b, c, dd, RfL.mono e0i ee⟩)
    cases hb : bnd pt d ei with
    | none => rw [hb] at ki; exact ki.elim
    | some e1 =>
    rw [hb] at ki
    dsimp only at ki
    refine ⟨H02, HF, ei, ts, fei, fti, d, e1, s2, r2, hb, fun σ2 fe2 ft2 s3 hσ hz => ?_⟩
    have p2 : Pin pd σ σ2 := pi.trans (Pin.of hp hσ)
    have e3 : Ex H01 H02 := e0i.trans e02
    refine ⟨H02, HF, e1, ts, fe2, ft2, s3, ?_⟩
    cases hbd : body e1 with
    | nx e2' => rw [hbd] at ki; exact fun σ4 H4 H04 f g a b s4 => ⟨H04, e2', f, g, e3.trans a, p2.trans b, s4, ki⟩
    | ct e2' => rw [hbd] at ki; exact fun σ4 H4 H04 f g a b s4 => ⟨H04, e2', f, g, e3.trans a, p2.trans b, s4, ki⟩
    | bk e2' => rw [hbd] at ki; exact fun σ4 H4 H04 f g a b s4 => KSR.nx ki (e3.trans a) (p2.trans b) s4
    | rt v e2' => rw [hbd] at ki; exact KSR.drop (r := .rt v e2') ki e3 p2
    | exc C x e2' => rw [hbd] at ki; exact KSR.drop (r := .exc C x e2') ki e3 p2
    | bad => rw [hbd] at ki; exact ki
  · have hn : ds[i]? = none := List.getElem?_eq_none_iff.mpr (by omega)
    refine .inl ⟨w2 hn, ?_⟩
    rw [List.drop_of_length_le (by omega)] at ki
    exact KSR.nx ki e0i pi si
def whGo (t : MX Bool) (body : SX) : Nat → Env → SR
  | 0, _ => .bad
  | n + 1, e => match t e with
    | .ok true e1 => match body e1 with
      | .nx e2 => whGo t body n e2
      | .ct e2 => whGo t body n e2
      | .bk e2 => .nx e2
      | r => r
    | .ok false e1 => .nx e1
    | .exc C x e1 => .exc C x e1
    | .bad => .bad
def whS (n : Nat) (t : MX Bool) (body : SX) : SX := fun env => whGo t body n env
theorem sh_wh {t : MX Bool} {body : SX} {n : Nat} (z : tS E pd (whS n t body) D σ H) : tWhile (tMT E t) (tS E pd body) D σ H := by
  obtain ⟨H0, HF, env, ts, fe, ft, s, k⟩ := z
  refine ⟨fun m σ' H' => ∃ H0i ei fei fti, Ex H0 H0i ∧ Pin pd σ σ' ∧ S H0i HF H' σ' ei ts fei fti ∧ KSR H0 HF pd σ ts E D (whGo t body m ei), ⟨n, H0, env, fe, ft, Ex.refl _, Pin.refl, s, k⟩, ?_⟩
  rintro m σ' H' ⟨H0i, ei, fei, fti, e0i, pi, si, ki⟩
  cases m with
  | zero => exact ki.elim
  | succ m =>
  unfold whGo at ki
  refine tMT_out si ?_
  cases ht : t ei with
  | bad => rw [ht] at ki; exact ki
  | exc C x e1 => rw [ht] at ki; exact KSR.exc (KSR.drop ki e0i pi)
  | ok b e1 =>
    rw [ht] at ki
    cases b with
    | false => exact fun H1 H01 fe1 ft1 e0 s1 => iteF (KSR.nx ki (e0i.trans e0) pi s1)
    | true =>
      dsimp only at ki
      refine fun H1 H01 fe1 ft1 e0 s1 => iteT ⟨fun σ' H' => ∃ H0i ei fei fti, Ex H0 H0i ∧ Pin pd σ σ' ∧ S H0i HF H' σ' ei ts fei fti ∧ KSR H0 HF pd σ ts E D (whGo t body m ei), fun σ' H' q => ⟨m, Nat.lt_succ_self _, q⟩, H01, HF, e1, ts, fe1, ft1, s1, ?_⟩
      have e3 : Ex H0 H01 := e0i.trans e0
      cases hbd : body e1 with
      | nx e2' => rw [hbd] at ki; exact fun σ4 H4 H04 f g a b s4 => ⟨H04, e2', f, g, e3.trans a, pi.trans b, s4, ki⟩
      | ct e2' => rw [hbd] at ki; exact fun σ4 H4 H04 f g a b s4 => ⟨H04, e2', f, g, e3.trans a, pi.trans b, s4, ki⟩
      | bk e2' => rw [hbd] at ki; exact fun σ4 H4 H04 f g a b s4 => KSR.nx ki (e3.trans a) (pi.trans b) s4
      | rt v e2' => rw [hbd] at ki; exact KSR.drop (r := .rt v e2') ki e3 pi
      | exc C x e2' => rw [hbd] at ki; exact KSR.drop (r := .exc C x e2') ki e3 pi
      | bad => rw [hbd] at ki; exact ki
end

/-! ### rules of the layer -/
section
variable {X : Cx} {E : XK} {pd : List Nat} {e a b : Expr} {pos : Pos} {m n : MX Mv} {st : Stmt} {rest : List Stmt} {p q : SX}
theorem ss_nil : PSs X [] (tS E pd passS) := pss_mono pss_nil fun _ _ _ z => sh_pass z
theorem ss_cons (h1 : PS X st (tS E pd p)) (h2 : PSs X rest (tS E pd q)) : PSs X (st :: rest) (tS E pd (seqS p q)) := pss_mono (pss_cons h1 h2) fun _ _ _ z => sh_seq z
theorem ss_one (h1 : PS X st (tS E pd p)) : PSs X [st] (tS E pd p) := pss_one h1
theorem st_pass : PS X (.Pass pos) (tS E pd passS) := ps_mono ps_pass fun _ _ _ z => sh_pass z
theorem st_break : PS X (.Break pos) (tS E pd breakS) := ps_mono ps_break fun _ _ _ z => sh_break z
theorem st_cont : PS X (.Continue pos) (tS E pd contS) := ps_mono ps_continue fun _ _ _ z => sh_cont z
theorem st_never : PS X st (tS E pd neverS) := ps_mono ps_never fun _ _ _ z => sh_never z
theorem ss_never {sts : List Stmt} : PSs X sts (tS E pd neverS) := pss_mono pss_never fun _ _ _ z => sh_never z
theorem st_asg {i : Nat} {fz : Bool} {te : TE} (h : PS X st (tAsg te (gName i))) (hm : ShM E te m) (hp : pd.contains i = false := by rfl) : PS X st (tS E pd (asgS i fz m)) := ps_mono h fun _ _ _ z => sh_asg hm hp z
theorem st_asgP {pt : Pat} {te : TE} (h : PS X st (tAsg te (tG pt))) (hm : ShM E te m) (hp : pt.slots.all (fun i => !pd.contains i) = true := by rfl) : PS X st (tS E pd (asgP pt m)) := ps_mono h fun _ _ _ z => sh_asgP hm hp z
theorem st_ex (h : PE X e (tM E m)) (hs : swapsWith e none pos.line X.env = pure false := by rfl) : PS X (.Expr e pos) (tS E pd (exS m)) := ps_mono (ps_expr h hs) fun _ _ _ z => sh_ex (fun q => q) z
theorem st_ret {fz : Bool} (h : PE X e (tM E m)) : PS X (.Return (some e) pos) (tS E pd (rtS fz m)) := ps_mono (ps_ret h) fun _ _ _ z => sh_rt (fun q => q) z
theorem st_retN : PS X (.Return none pos) (tS E pd rtN) := ps_mono ps_retN fun _ _ _ z => sh_rtN z
theorem st_if {c : Expr} {aa bb : List Stmt} {t : MX Bool} (hc : PT X c (tMT E t)) (ha : PSs X aa (tS E pd p)) (hb : PSs X bb (tS E pd q)) : PS X (.If c aa bb pos) (tS E pd (ifS t p q)) := ps_mono (ps_if hc ha hb) fun _ _ _ z => sh_if z
theorem st_for {iter tg : Expr} {body : List Stmt} {it : MX (List D)} {pt : Pat} (hp : PassesOwn (model X.prog X.w) X.A X.env X.xe) (hc : X.calm = true) (hi : PI X tg iter (tMI E it)) (hg : PG X tg (tG pt)) (hb : PSs X body (tS E pd p)) (hd : pt.slots.all (fun i => !pd.contains i) = true := by rfl) (hs : ∀ x, foldedSetIterable iter X.env x = pure x := by intro _; rfl) :
    PS X (.For tg iter body [] pos) (tS E pd (forS pt it p)) := ps_mono (ps_for hp hc hi hg hb hs) fun _ _ _ z => sh_for hd z
theorem st_wh {c : Expr} {body : List Stmt} {t : MX Bool} {k : Nat} (hp : PassesOwn (model X.prog X.w) X.A X.env X.xe) (hc : PT X c (tMT E t)) (hb : PSs X body (tS E pd p)) : PS X (.While c body [] pos) (tS E pd (whS k t p)) := ps_mono (ps_while hp hc hb) fun _ _ _ z => sh_wh z
end
end Vt

set_option Elab.async false
set_option linter.all false
set_option autoImplicit false
set_option maxRecDepth 100000
set_option maxHeartbeats 1000000
/-! Vt10: defs and their calls. -/
namespace Vt
open PySem L2

/-- how a def takes its parameters: none: read; some k: owned of that kind, and handed back -/
abbrev Md := List (Option Kd)
inductive FRes where
  | ret (v : Mv) (ms : List D) | exc (C : Addr) (x : D) (ms : List D) | bad
abbrev Fn := List D → FRes
def mdK (m : Option Kd) : Kd := match m with
  | none => .z
  | some k => k
def argT : Md → List D → List V → List Tm
  | m :: md, d :: ds, v :: vs => (mdK m, d, v) :: argT md ds vs
  | _, _, _ => []
def mutT : Md → List D → List V → List Tm
  | none :: md, ms, _ :: vs => mutT md ms vs
  | some k :: md, m :: ms, v :: vs => (k, m, v) :: mutT md ms vs
  | _, _, _ => []
def spF (md : Md) (F : Fn) : Sp := fun vs H Q E => ∃ H0 HF ds ft, vs.length = md.length ∧ ds.length = md.length ∧ S H0 HF H [] [] (argT md ds vs) (fun _ => 0) ft ∧ match F ds with
  | .ret v ms => ∀ H' H0' u ft', Ex H0 H0' → S H0' HF H' [] [] ((v.1, v.2, u) :: mutT md ms vs) (fun _ => 0) ft' → Q u H'
  | .exc C x ms => ∀ d H' H0' ft', Ex H0 H0' → S H0' HF H' [] [] (mutT md ms vs) (fun _ => 0) ft' → Xr H0' x d → E (.ref C) (some d) H'
  | .bad => False

def unS (n : Nat) : Env := List.replicate n .un
def env0 (n : Nat) : Md → List D → Env
  | m :: md, d :: ds => .val (mdK m) d :: env0 (n - 1) md ds
  | _, _ => unS n
def pdFrom : Nat → Md → List Nat
  | _, [] => []
  | i, none :: md => pdFrom (i + 1) md
  | i, some _ :: md => i :: pdFrom (i + 1) md
def muts : Md → Env → Option (List D)
  | [], _ => some []
  | none :: md, _ :: e => muts md e
  | some k :: md, .val k' d :: e => if Kd.beq k' k = true then (muts md e).map fun r => d :: r else none
  | _, _ => none
def mkF (md : Md) (n : Nat) (body : SX) : Fn := fun ds => if ds.length = md.length then match body (env0 n md ds) with
    | .nx e => match muts md e with
      | some ms => .ret (.z, .non) ms
      | none => .bad
    | .rt v e => match muts md e with
      | some ms => .ret v ms
      | none => .bad
    | .exc C x e => match muts md e with
      | some ms => .exc C x ms
      | none => .bad
    | _ => .bad
  else .bad

section
variable {H0 HF H H0' H' : Hp} {σ : L2.St} {env : Env} {ts : List Tm} {fe ft : Fp}
theorem RkE.uns : ∀ {n : Nat}, RkE H0 H (unS n) (List.replicate n none) (fun _ => 0)
  | 0 => ⟨rfl, fun _ => rfl⟩
  | n + 1 => ⟨none, _, fun _ => 0, fun _ => 0, rfl, fun _ => rfl, RkE.uns, fun _ => rfl⟩
theorem RkE.args : ∀ {md : Md} {ds : List D} {vs : List V} {n : Nat} {f : Fp}, ds.length = md.length → vs.length = md.length → md.length ≤ n → RkT H0 H (argT md ds vs) f → RkE H0 H (env0 n md ds) (vs.map some ++ List.replicate (n - vs.length) none) f
  | [], [], [], n, f, _, _, _, h => RkE.uns.ext h
  | m :: md, d :: ds, v :: vs, n, f, h1, h2, h3, h => by
    obtain ⟨f1, f2, q1, q2, q3⟩ := h
    have e : n - (v :: vs).length = (n - 1) - vs.length := by simp; omega
    rw [e]
    exact ⟨some v, _, f1, f2, rfl, ⟨v, rfl, q1⟩, RkE.args (by simpa using h1) (by simpa using h2) (by simp at h3; omega) q2, q3⟩
  | [], _ :: _, _, _, _, h, _, _, _ => by cases h
  | [], [], _ :: _, _, _, _, h, _, _ => by cases h
  | _ :: _, [], _, _, _, h, _, _, _ => by cases h
  | _ :: _, _ :: _, [], _, _, _, h, _, _ => by cases h
/-- at the entry -/
theorem S.enter {md : Md} {ds : List D} {vs : List V} {N : List Str} (s : S H0 HF H [] [] (argT md ds vs) (fun _ => 0) ft) (h1 : ds.length = md.length) (h2 : vs.length = md.length) (h3 : md.length ≤ N.length) : S H0 HF H (L2.start N vs) (env0 N.length md ds) [] ft (fun _ => 0) :=
  ⟨s.sub, s.frm, s.imm, s.dis, RkE.args h1 h2 h3 s.tmp, fun _ => rfl, fun x => by have := s.uniq x; omega, fun x hx => s.s0 x (by omega), fun x hx => s.sF x (by omega)⟩
theorem RkE.muts : ∀ {md : Md} {env : Env} {σ : L2.St} {ms : List D} {vs : List V} {f : Fp}, muts md env = some ms → vs.length = md.length → (∀ (i : Nat) (k : Kd), md[i]? = some (some k) → ∀ v, vs[i]? = some v → σ[i]? = some (some v)) → RkE H0 H env σ f →
    ∃ g, RkT H0 H (mutT md ms vs) g ∧ ∀ x, g x ≤ f x
  | [], env, σ, ms, [], f, h, _, _, _ => by cases h; exact ⟨_, fun _ => rfl, fun x => Nat.zero_le _⟩
  | none :: md, s :: e, σ, ms, v :: vs, f, h, hl, hp, r => by
    obtain ⟨o, us, f1, f2, rfl, r1, r2, r3⟩ := r
    obtain ⟨g, q1, q2⟩ := RkE.muts (md := md) (vs := vs) h (by simpa using hl) (fun i k hi v' hv => by simpa using hp (i + 1) k (by simpa using hi) v' (by simpa using hv)) r2
    exact ⟨g, q1, fun x => by have := q2 x; have := r3 x; omega⟩
  | some k :: md, .val k' d :: e, σ, ms, v :: vs, f, h, hl, hp, r => by
    obtain ⟨o, us, f1, f2, rfl, ⟨w, rfl, r1⟩, r2, r3⟩ := r
    unfold Vt.muts at h
    split at h
    · rename_i hb
      cases hm : Vt.muts md e with
      | none => rw [hm] at h; cases h
      | some ms' =>
        rw [hm] at h
        cases h
        have ew : w = v := by
          have := hp 0 k rfl v rfl
          simpa using this
        subst ew
        rw [Kd.beq_eq hb] at r1
        obtain ⟨g, q1, q2⟩ := RkE.muts (md := md) (vs := vs) hm (by simpa using hl) (fun i k hi v' hv => by simpa using hp (i + 1) k (by simpa using hi) v' (by simpa using hv)) r2
        exact ⟨fun x => f1 x + g x, ⟨f1, g, r1, q1, fun _ => rfl⟩, fun x => by have := q2 x; have := r3 x; dsimp only; omega⟩
    · cases h
  | [], _, _, _, _ :: _, _, _, h, _, _ => by cases h
  | none :: _, [], _, _, _, _, h, _, _, _ => by cases h
  | some _ :: _, [], _, _, _, _, h, _, _, _ => by cases h
  | some _ :: _, .un :: _, _, _, _, _, h, _, _, _ => by cases h
  | none :: _, _ :: _, _, _, [], _, _, h, _, _ => by cases h
  | some _ :: _, .val _ _ :: _, _, _, [], _, _, h, _, _ => by cases h
theorem pdFrom_mem : ∀ {md : Md} {j i : Nat} {k : Kd}, md[i]? = some (some k) → j + i ∈ pdFrom j md
  | [], j, i, k, h => by simp at h
  | none :: md, j, 0, k, h => by simp at h
  | none :: md, j, i + 1, k, h => by
    have := pdFrom_mem (md := md) (j := j + 1) (i := i) (k := k) (by simpa using h)
    rw [show j + (i + 1) = j + 1 + i by omega]
    exact this
  | some k' :: md, j, 0, k, h => by simp [pdFrom]
  | some k' :: md, j, i + 1, k, h => by
    have := pdFrom_mem (md := md) (j := j + 1) (i := i) (k := k) (by simpa using h)
    rw [show j + (i + 1) = j + 1 + i by omega]
    exact List.mem_cons_of_mem _ this
theorem start_get {N : List Str} {vs : List V} {i : Nat} {v : V} (h : vs[i]? = some v) : (L2.start N vs)[i]? = some (some v) := by
  have hl : i < vs.length := (List.getElem?_eq_some_iff.mp h).1
  unfold L2.start
  rw [List.getElem?_append_left (by simpa using hl), List.getElem?_map, h]
  rfl
/-- at the end -/
theorem S.leave {md : Md} {ms : List D} {vs : List V} {N : List Str} (t : List Tm) (s : S H0 HF H σ env t fe ft) (h : muts md env = some ms) (hl : vs.length = md.length) (hp : Pin (pdFrom 0 md) (L2.start N vs) σ) : ∃ ft', S H0 HF H [] [] (t ++ mutT md ms vs) (fun _ => 0) ft' := by
  obtain ⟨g, q1, q2⟩ := RkE.muts h hl (fun i k hi v hv => by
    have := hp i (by have := pdFrom_mem (j := 0) hi; rwa [Nat.zero_add] at this)
    rw [this]
    exact start_get hv) s.re
  refine ⟨fun x => ft x + g x, s.sub, s.frm, s.imm, s.dis, ⟨rfl, fun _ => rfl⟩, s.tmp.append q1, fun x => ?_, fun x hx => s.s0 x ?_, fun x hx => s.sF x ?_⟩
  · have := s.uniq x; have := q2 x; omega
  · have := q2 x; omega
  · have := q2 x; omega
/-- THE BODY of a def keeps its promise -/
theorem fn_body {md : Md} {N : List Str} {body : SX} {vs : List V} {Q : VK} {E : XK} (h3 : md.length ≤ N.length) (h : spF md (mkF md N.length body) vs H Q E) : tS E (pdFrom 0 md) body { nx := fun _ H' => Q .non H', rt := Q } (L2.start N vs) H := by
  obtain ⟨H0, HF, ds, ft, h1, h2, s, k⟩ := h
  refine ⟨H0, HF, _, [], ft, _, s.enter h2 h1 h3, ?_⟩
  unfold mkF at k
  rw [if_pos h2] at k
  cases hb : body (env0 N.length md ds) with
  | nx e =>
    rw [hb] at k
    dsimp only at k
    cases hm : muts md e with
    | none => rw [hm] at k; exact k.elim
    | some ms =>
      rw [hm] at k
      intro σ' H' H0' fe' ft' e0 p s'
      obtain ⟨ft2, s2⟩ := S.leave (N := N) [(.z, .non, .non)] (s'.pushZ (d := .non) (v := .non) rfl) hm h1 p
      exact k H' H0' .non ft2 e0 s2
  | rt v e =>
    rw [hb] at k
    dsimp only at k
    cases hm : muts md e with
    | none => rw [hm] at k; exact k.elim
    | some ms =>
      rw [hm] at k
      intro σ' H' H0' u fe' ft' e0 p s'
      obtain ⟨ft2, s2⟩ := S.leave (N := N) [(v.1, v.2, u)] s' hm h1 p
      exact k H' H0' u ft2 e0 s2
  | exc C x e =>
    rw [hb] at k
    dsimp only at k
    cases hm : muts md e with
    | none => rw [hm] at k; exact k.elim
    | some ms =>
      rw [hm] at k
      intro d σ' H' H0' fe' ft' e0 p s' r
      obtain ⟨ft2, s2⟩ := S.leave (N := N) [] s' hm h1 p
      exact k d H' H0' ft2 e0 s2 r
  | bk e => rw [hb] at k; exact k.elim
  | ct e => rw [hb] at k; exact k.elim
  | bad => rw [hb] at k; exact k.elim
end

/-! ### a call -/
mutual
def D.flat : D → Bool
  | .nd .tup xs => D.flats xs
  | .nd _ _ => false
  | _ => true
def D.flats : List D → Bool
  | [] => true
  | d :: ds => d.flat && D.flats ds
end
mutual
/-- nothing frozen in it but flat things -/
def noLeak : D → Kd → Bool
  | .nd s xs, k => if k.isZ then (D.nd s xs).flat else noLeaks xs k.kid
  | _, _ => true
def noLeaks : List D → (Nat → Kd) → Bool
  | [], _ => true
  | d :: ds, kf => noLeak d (kf 0) && noLeaks ds fun i => kf (i + 1)
end
mutual
theorem Rf.flat {H H' : Hp} (k : ∀ x o, H x = some o → ¬ Mut (some o) → H' x = some o) : ∀ {d : D} {v : V}, Rf H d v → d.flat = true → Rf H' d v
  | .non, _, h, _ => h
  | .bl _, _, h, _ => h
  | .int _, _, h, _ => h
  | .str _, _, h, _ => h
  | .nd .tup xs, v, h, p => by
    obtain ⟨a, dx, vs, h1, h2, h3, h4⟩ := h
    exact ⟨a, dx, vs, h1, k _ _ h2 (fun z => z), h3, RfL.flat k h4 p⟩
  | .nd .lst xs, _, _, p => by cases p
  | .nd .scr xs, _, _, p => by cases p
  | .nd (.dK _) xs, _, _, p => by cases p
  | .nd (.dT _) xs, _, _, p => by cases p
  | .nd (.obj _ _) xs, _, _, p => by cases p
theorem RfL.flat {H H' : Hp} (k : ∀ x o, H x = some o → ¬ Mut (some o) → H' x = some o) : ∀ {ds : List D} {vs : List V}, RfL H ds vs → D.flats ds = true → RfL H' ds vs
  | [], _, h, _ => h
  | d :: ds, vs, h, p => by
    obtain ⟨u, us, h1, h2, h3⟩ := h
    simp only [D.flats, Bool.and_eq_true] at p
    exact ⟨u, us, h1, Rf.flat k h2 p.1, RfL.flat k h3 p.2⟩
end
theorem Sh.std_imm {s : Sh} {H H' : Hp} {a dx : Addr} {vs : List V} (hs : s.isT = true) (k : ∀ x o, H x = some o → ¬ Mut (some o) → H' x = some o) (h : s.std H a dx vs) : s.std H' a dx vs := by
  cases s with
  | tup => exact k _ _ h fun z => z
  | scr => obtain ⟨o, h⟩ := h; exact ⟨o, k _ _ h fun z => z⟩
  | _ => cases hs
theorem Sh.ok_imm {s : Sh} {H H' : Hp} {a dx : Addr} {n : Nat} (k : ∀ x o, H x = some o → ¬ Mut (some o) → H' x = some o) (h : s.ok H a dx n) : s.ok H' a dx n := by
  cases s with
  | obj C ns => exact ⟨k _ _ h.1 fun z => z, h.2⟩
  | _ => exact h
mutual
theorem Rk.noLeak {H0 H0' H : Hp} (k : ∀ x o, H0 x = some o → ¬ Mut (some o) → H0' x = some o) : ∀ {d : D} {kd : Kd} {v : V} {f : Fp}, Rk H0 H d kd v f → noLeak d kd = true → Rk H0' H d kd v f
  | .non, _, _, _, h, _ => h
  | .bl _, _, _, _, h, _ => h
  | .int _, _, _, _, h, _ => h
  | .str _, _, _, _, h, _ => h
  | .nd s xs, kd, v, f, h, p => by
    cases hk : kd.isZ with
    | true =>
      simp only [Rk, hk, if_true] at h ⊢
      unfold Vt.noLeak at p
      rw [hk, if_pos rfl] at p
      exact ⟨Rf.flat k h.1 p, h.2⟩
    | false =>
      unfold Vt.noLeak at p
      rw [hk, if_neg Bool.false_ne_true] at p
      rw [Rk.nd_iff hk] at h ⊢
      obtain ⟨a, dx, vs, g, h1, h2, h3, h4⟩ := h
      refine ⟨a, dx, vs, g, h1, ?_, Sh.ok_imm k h3, RkL.noLeak k h4 p⟩
      split at h2
      · rename_i ht; rw [if_pos ht]; exact ⟨Sh.std_imm ht k h2.1, h2.2⟩
      · rename_i ht; rw [if_neg ht]; exact h2
theorem RkL.noLeak {H0 H0' H : Hp} (k : ∀ x o, H0 x = some o → ¬ Mut (some o) → H0' x = some o) : ∀ {ds : List D} {kf : Nat → Kd} {vs : List V} {f : Fp}, RkL H0 H ds kf vs f → noLeaks ds kf = true → RkL H0' H ds kf vs f
  | [], _, _, _, h, _ => h
  | d :: ds, kf, vs, f, h, p => by
    obtain ⟨u, us, f1, f2, h1, h2, h3, h4⟩ := h
    simp only [noLeaks, Bool.and_eq_true] at p
    exact ⟨u, us, f1, f2, h1, Rk.noLeak k h2 p.1, RkL.noLeak k h3 p.2, h4⟩
end
def noLeakT : List Tm → Bool
  | [] => true
  | t :: ts => noLeak t.2.1 t.1 && noLeakT ts
theorem RkT.noLeak {H0 H0' H : Hp} (k : ∀ x o, H0 x = some o → ¬ Mut (some o) → H0' x = some o) : ∀ {ts : List Tm} {f : Fp}, RkT H0 H ts f → noLeakT ts = true → RkT H0' H ts f
  | [], _, h, _ => h
  | t :: ts, f, h, p => by
    obtain ⟨f1, f2, h2, h3, h4⟩ := h
    simp only [noLeakT, Bool.and_eq_true] at p
    exact ⟨f1, f2, Rk.noLeak k h2 p.1, RkT.noLeak k h3 p.2, h4⟩
/-- the arguments as temporaries, each of its kind; those that are read -/
def kT : List Kd → List D → List V → List Tm
  | k :: ks, d :: ds, v :: vs => (k, d, v) :: kT ks ds vs
  | _, _, _ => []
def viewT : Md → List Kd → List D → List V → List Tm
  | none :: md, k :: ks, d :: ds, v :: vs => (k, d, v) :: viewT md ks ds vs
  | some _ :: md, _ :: ks, _ :: ds, _ :: vs => viewT md ks ds vs
  | _, _, _, _ => []
def mdOk : Md → List Kd → Bool
  | none :: md, _ :: ks => mdOk md ks
  | some k :: md, k' :: ks => Kd.beq k' k && mdOk md ks
  | [], [] => true
  | _, _ => false
theorem RkT.byMd {H0 H : Hp} : ∀ {md : Md} {ks : List Kd} {ds : List D} {us : List V} {f : Fp}, mdOk md ks = true → ds.length = md.length → us.length = md.length → RkT H0 H (kT ks ds us) f →
    ∃ fv fm, (∀ x, f x = fv x + fm x) ∧ RkT H0 H (viewT md ks ds us) fv ∧ ∀ H0c, Ex H0 H0c → (∀ x o, 1 ≤ fv x → H x = some o → H0c x = some o) → RkT H0c H (argT md ds us) fm
  | [], [], [], [], f, _, _, _, h => ⟨_, _, fun x => by rw [h x], fun _ => rfl, fun _ _ _ _ => rfl⟩
  | none :: md, k :: ks, d :: ds, u :: us, f, h1, h2, h3, h => by
    obtain ⟨f1, f2, q1, q2, q3⟩ := h
    obtain ⟨fv, fm, p1, p2, p3⟩ := RkT.byMd (md := md) (by simpa [mdOk] using h1) (by simpa using h2) (by simpa using h3) q2
    refine ⟨fun x => f1 x + fv x, fm, fun x => by have := q3 x; have := p1 x; dsimp only; omega, ⟨f1, fv, q1, p2, fun _ => rfl⟩, fun H0c e c => ⟨_, fm, Rk.z (q1.freeze e fun x o hx q => c x o (by dsimp only; omega) q), p3 H0c e fun x o hx q => c x o (by dsimp only; omega) q, fun x => by omega⟩⟩
  | some k' :: md, k :: ks, d :: ds, u :: us, f, h1, h2, h3, h => by
    obtain ⟨f1, f2, q1, q2, q3⟩ := h
    simp only [mdOk, Bool.and_eq_true] at h1
    obtain ⟨fv, fm, p1, p2, p3⟩ := RkT.byMd (md := md) h1.2 (by simpa using h2) (by simpa using h3) q2
    have := Kd.beq_eq h1.1
    subst this
    refine ⟨fv, fun x => f1 x + fm x, fun x => by have := q3 x; have := p1 x; dsimp only; omega, p2, fun H0c e c => ⟨f1, fm, q1.mono e fun _ _ _ q => q, p3 H0c e c, fun _ => rfl⟩⟩
  | [], _ :: _, _, _, _, h, _, _, _ => by cases h
  | none :: _, [], _, _, _, h, _, _, _ => by cases h
  | some _ :: _, [], _, _, _, h, _, _, _ => by cases h
  | [], [], _ :: _, _, _, _, h, _, _ => by cases h
  | [], [], [], _ :: _, _, _, _, h, _ => by cases h
  | none :: _, _ :: _, [], _, _, _, h, _, _ => by cases h
  | some _ :: _, _ :: _, [], _, _, _, h, _, _ => by cases h
  | none :: _, _ :: _, _ :: _, [], _, _, _, h, _ => by cases h
  | some _ :: _, _ :: _, _ :: _, [], _, _, _, h, _ => by cases h
def viewZ : Md → List D → List V → List Tm
  | none :: md, d :: ds, v :: vs => (.z, d, v) :: viewZ md ds vs
  | some _ :: md, _ :: ds, _ :: vs => viewZ md ds vs
  | _, _, _ => []
theorem RkT.viewZ {H0 H0' H H' : Hp} (e : Ex H0 H0') : ∀ {md : Md} {ks : List Kd} {ds : List D} {us : List V} {f : Fp}, (∀ x o, 1 ≤ f x → H x = some o → H0' x = some o) → RkT H0 H (viewT md ks ds us) f → mdOk md ks = true → RkT H0' H' (viewZ md ds us) (fun _ => 0)
  | none :: md, k :: ks, d :: ds, u :: us, f, c, h, p => by
    obtain ⟨f1, f2, q1, q2, q3⟩ := h
    exact ⟨_, _, Rk.z (q1.freeze e fun x o hx q => c x o (by have := q3 x; omega) q), RkT.viewZ e (fun x o hx q => c x o (by have := q3 x; omega) q) q2 p, fun _ => rfl⟩
  | some k' :: md, k :: ks, d :: ds, u :: us, f, c, h, p => by
    simp only [mdOk, Bool.and_eq_true] at p
    exact RkT.viewZ (md := md) e c h p.2
  | [], _, _, _, _, _, _, _ => fun _ => rfl
  | none :: _, [], _, _, _, _, _, p => by cases p
  | some _ :: _, [], _, _, _, _, _, p => by cases p
  | none :: _, _ :: _, [], _, _, _, _, _ => fun _ => rfl
  | some _ :: _, _ :: _, [], _, _, _, _, _ => fun _ => rfl
  | none :: _, _ :: _, _ :: _, [], _, _, _, _ => fun _ => rfl
  | some _ :: _, _ :: _, _ :: _, [], _, _, _, _ => fun _ => rfl

section
variable {H0 HF H : Hp} {σ : L2.St} {env : Env} {ts : List Tm} {fe ft : Fp}
open Classical in
/-- THE CALL, by the state: what the callee sees, and what the caller sees behind it -/
theorem S.call {md : Md} {ks : List Kd} {ds : List D} {us : List V} (s : S H0 HF H σ env (kT ks ds us ++ ts) fe ft) (hm : mdOk md ks = true) (h1 : ds.length = md.length) (h2 : us.length = md.length) :
    ∃ H0c HFc fm, S H0c HFc H [] [] (argT md ds us) (fun _ => 0) fm ∧
      ∀ (rs : List Tm) H0c' H' ft', Ex H0c H0c' → S H0c' HFc H' [] [] rs (fun _ => 0) ft' →
        (∃ H0n ftn, Ex H0 H0n ∧ S H0n HF H' σ env (rs ++ (viewZ md ds us ++ ts)) fe ftn ∧ ∀ x d, Xr H0c' x d → Xr H0n x d) ∧
        (noLeakT rs = true → ∃ H0n ftn, Ex H0 H0n ∧ S H0n HF H' σ env (rs ++ (viewT md ks ds us ++ ts)) fe ftn ∧ ∀ x d, x.flat = true → Xr H0c' x d → Xr H0n x d) := by
  obtain ⟨fa, fts, qa, qt, eft⟩ := s.tmp.split
  obtain ⟨fv, fm, efa, qv, qm⟩ := RkT.byMd hm h1 h2 qa
  -- what is known to the callee; what is foreign to it
  let H0c : Hp := fun x => if 1 ≤ fv x then H x else H0 x
  let HFc : Hp := fun x => if 1 ≤ fe x + fts x then H x else HF x
  have cA : ∀ x, fe x + fts x + fv x + fm x ≤ 1 := fun x => by have := s.uniq x; have := eft x; have := efa x; omega
  have c0 : ∀ x o, H0 x = some o → fe x + fts x + fv x + fm x = 0 := fun x o q => by
    by_cases z : 1 ≤ fe x + ft x
    · rw [s.s0 x z] at q; cases q
    · have := eft x; have := efa x; omega
  have cF : ∀ x o, HF x = some o → fe x + fts x + fv x + fm x = 0 := fun x o q => by
    by_cases z : 1 ≤ fe x + ft x
    · rw [s.sF x z] at q; cases q
    · have := eft x; have := efa x; omega
  have eH0 : Ex H0 H0c := fun x o q => by
    show (if 1 ≤ fv x then H x else H0 x) = _
    rw [if_neg (by have := c0 x o q; omega)]; exact q
  have h0v : ∀ x, 1 ≤ fv x → H0c x = H x := fun x hx => if_pos hx
  have h0n : ∀ x, fv x = 0 → H0c x = H0 x := fun x hx => if_neg (by omega)
  have hFo : ∀ x, 1 ≤ fe x + fts x → HFc x = H x := fun x hx => if_pos hx
  have hFn : ∀ x, fe x + fts x = 0 → HFc x = HF x := fun x hx => if_neg (by omega)
  have eF : Ex HF HFc := fun x o q => by rw [hFn x (by have := cF x o q; omega)]; exact q
  refine ⟨H0c, HFc, fm, ⟨fun x o q => ?_, fun x o q => ?_, fun x o q m => eH0 _ _ (s.imm x o q m), fun x o q => ?_, ⟨rfl, fun _ => rfl⟩, qm H0c eH0 (fun x o hx q => by rw [h0v x hx]; exact q), fun x => by have := cA x; omega, fun x hx => ?_, fun x hx => ?_⟩, ?_⟩
  · by_cases z : 1 ≤ fv x
    · rw [h0v x z] at q; exact q
    · rw [h0n x (by omega)] at q; exact s.sub x o q
  · by_cases z : 1 ≤ fe x + fts x
    · rw [hFo x z] at q; exact q
    · rw [hFn x (by omega)] at q; exact s.frm x o q
  · by_cases z : 1 ≤ fe x + fts x
    · rw [h0n x (by have := cA x; omega)]
      exact s.s0 x (by have := eft x; omega)
    · rw [hFn x (by omega)] at q
      rw [h0n x (by have := cF x o q; omega)]
      exact s.dis x o q
  · have hx : 1 ≤ fm x := by omega
    rw [h0n x (by have := cA x; omega)]
    exact s.s0 x (by have := eft x; have := efa x; omega)
  · have hx : 1 ≤ fm x := by omega
    rw [hFn x (by have := cA x; omega)]
    exact s.sF x (by have := eft x; have := efa x; omega)
  -- behind it
  intro rs H0c' H' ft' e0 s'
  have own : ∀ x o, 1 ≤ fe x + fts x → H x = some o → H' x = some o := fun x o hx q => s'.frm x o (by rw [hFo x hx]; exact q)
  have vw : ∀ x o, 1 ≤ fv x → H x = some o → H0c' x = some o := fun x o hx q => e0 x o (by rw [h0v x hx]; exact q)
  have sepO : ∀ x, 1 ≤ fe x + fts x → ft' x = 0 ∧ H0c' x = none := fun x hx => by
    obtain ⟨o, ho, _⟩ : ∃ o, H x = some o ∧ Mut (some o) := s.cell (by have := eft x; omega)
    have hF : HFc x = some o := by rw [hFo x hx]; exact ho
    refine ⟨?_, s'.dis x o hF⟩
    by_cases z : 1 ≤ ft' x
    · have := s'.sF x (by omega)
      rw [hF] at this; cases this
    · omega
  have sepV : ∀ x, 1 ≤ fv x → ft' x = 0 := fun x hx => by
    obtain ⟨o, ho, _⟩ : ∃ o, H x = some o ∧ Mut (some o) := s.cell (by have := eft x; have := efa x; omega)
    have h0 := vw x o hx ho
    by_cases z : 1 ≤ ft' x
    · have := s'.s0 x (by omega)
      rw [h0] at this; cases this
    · omega
  have noF : ∀ x, 1 ≤ ft' x → HF x = none := fun x hx => by
    cases q : HF x with
    | none => rfl
    | some o =>
      have := s'.sF x (by omega)
      rw [eF x o q] at this; cases this
  constructor
  · have e1 : Ex H0 H0c' := eH0.trans e0
    refine ⟨H0c', fun x => ft' x + fts x, e1, ⟨s'.sub, eF.trans s'.frm, s'.imm, fun x o q => s'.dis x o (eF x o q), s.re.mono e1 fun x o hx q => own x o (by omega) q,
      (s'.tmp.append ((RkT.viewZ (H' := H') e1 vw qv hm).append (qt.mono e1 fun x o hx q => own x o (by omega) q))).ext fun x => by omega, fun x => ?_, fun x hx => ?_, fun x hx => ?_⟩, fun x d h => h⟩
    · have := s'.uniq x
      by_cases z : 1 ≤ fe x + fts x
      · have := (sepO x z).1; have := cA x; omega
      · omega
    · by_cases z : 1 ≤ fe x + fts x
      · exact (sepO x z).2
      · exact s'.s0 x (by omega)
    · by_cases z : 1 ≤ fe x + fts x
      · exact s.sF x (by have := eft x; omega)
      · exact noF x (by omega)
  · intro hnl
    let H0n : Hp := fun x => if 1 ≤ fv x then none else H0c' x
    have n1 : ∀ x, 1 ≤ fv x → H0n x = none := fun x hx => if_pos hx
    have n2 : ∀ x, fv x = 0 → H0n x = H0c' x := fun x hx => if_neg (by omega)
    have e1 : Ex H0 H0n := fun x o q => by rw [n2 x (by have := c0 x o q; omega)]; exact e0 x o (eH0 x o q)
    have imm : ∀ x o, H0c' x = some o → ¬ Mut (some o) → H0n x = some o := fun x o q m => by
      by_cases z : 1 ≤ fv x
      · obtain ⟨o', ho, mo⟩ : ∃ o, H x = some o ∧ Mut (some o) := s.cell (by have := eft x; have := efa x; omega)
        have := vw x o' z ho
        rw [q] at this; cases this
        exact absurd mo m
      · rw [n2 x (by omega)]; exact q
    have sub : ∀ x o, H0n x = some o → H0c' x = some o := fun x o q => by
      by_cases z : 1 ≤ fv x
      · rw [n1 x z] at q; cases q
      · rw [n2 x (by omega)] at q; exact q
    refine ⟨H0n, fun x => ft' x + (fv x + fts x), e1, ⟨fun x o q => s'.sub x o (sub x o q), eF.trans s'.frm, fun x o q m => imm x o (s'.imm x o q m) m, fun x o q => ?_, s.re.mono e1 fun x o hx q => own x o (by omega) q,
      (s'.tmp.noLeak imm hnl).append ((qv.mono e1 fun x o hx q => s'.sub x o (vw x o hx q)).append (qt.mono e1 fun x o hx q => own x o (by omega) q)), fun x => ?_, fun x hx => ?_, fun x hx => ?_⟩, fun x d hf h => ?_⟩
    · cases q' : H0n x with
      | none => rfl
      | some o' =>
        have := s'.dis x o (eF x o q)
        rw [sub x o' q'] at this; cases this
    · have := s'.uniq x
      have := cA x
      by_cases z : 1 ≤ fe x + fts x
      · have := (sepO x z).1; omega
      · by_cases y : 1 ≤ fv x
        · have := sepV x y; omega
        · omega
    · by_cases y : 1 ≤ fv x
      · exact n1 x y
      · rw [n2 x (by omega)]
        by_cases z : 1 ≤ fe x + fts x
        · exact (sepO x z).2
        · exact s'.s0 x (by omega)
    · by_cases y : 1 ≤ ft' x
      · exact noF x y
      · exact s.sF x (by have := eft x; have := efa x; omega)
    · obtain ⟨v, h1, h2⟩ := h
      exact ⟨v, imm _ _ h1 (fun z => z), Rf.flat imm h2 hf⟩
end
end Vt

set_option Elab.async false
set_option linter.all false
set_option autoImplicit false
set_option maxRecDepth 100000
set_option maxHeartbeats 1000000
/-! Vt11: a call of a def by its denotation. -/
namespace Vt
open PySem L2

/-- an argument: an expression; the slot i, read; the slot i, to be changed -/
inductive Ag where
  | e (m : MX Mv) | v (i : Nat) | m (i : Nat)
def evA : List Ag → MX (List (Option Mv))
  | [], env => .ok [] env
  | .e m :: as, env => match m env with
    | .ok v e => match evA as e with
      | .ok vs e' => .ok (some v :: vs) e'
      | .exc C x e' => .exc C x e'
      | .bad => .bad
    | .exc C x e => .exc C x e
    | .bad => .bad
  | .v i :: as, env => match env[i]? with
    | some (.val _ _) => match evA as env with
      | .ok vs e' => .ok (none :: vs) e'
      | .exc C x e' => .exc C x e'
      | .bad => .bad
    | _ => .bad
  | .m i :: as, env => match env[i]? with
    | some (.val _ _) => match evA as env with
      | .ok vs e' => .ok (none :: vs) e'
      | .exc C x e' => .exc C x e'
      | .bad => .bad
    | _ => .bad
def oT : List (Option Mv) → List V → List Tm
  | some v :: vs, u :: us => (v.1, v.2, u) :: oT vs us
  | none :: vs, _ :: us => oT vs us
  | _, _ => []
def AgS : List Ag → List V → L2.St → Prop
  | .e _ :: as, _ :: us, σ => AgS as us σ
  | .v i :: as, u :: us, σ => σ[i]? = some (some u) ∧ AgS as us σ
  | .m i :: as, u :: us, σ => σ[i]? = some (some u) ∧ AgS as us σ
  | [], [], _ => True
  | _, _, _ => False
def tAg (E : XK) (as : List Ag) : TA := fun σ H Q => ∃ H0 HF env ts fe ft, S H0 HF H σ env ts fe ft ∧ match evA as env with
  | .ok vs env' => ∀ H' H0' us fe' ft', Ex H0 H0' → us.length = as.length → vs.length = as.length → S H0' HF H' σ env' (oT vs us ++ ts) fe' ft' → AgS as us σ → Q us H'
  | .exc C x env' => KX H0 HF σ ts E C x env'
  | .bad => False
def AgP (X : Cx) (E : XK) (e : Expr) : Ag → Prop
  | .e m => PE X e (tM E m)
  | .v i => PE X e (tVar i)
  | .m i => PE X e (tVar i)
section
variable {X : Cx} {E : XK} {e : Expr} {es : List Expr} {a : Ag} {as : List Ag}
theorem ag_nil : PA X [] (tAg E []) := pa_mono pa_nil fun σ H Q z => by
  obtain ⟨H0, HF, env, ts, fe, ft, s, k⟩ := z
  exact k H H0 [] fe ft (Ex.refl _) rfl rfl s trivial
theorem sh_agE {m : MX Mv} {σ : L2.St} {H : Hp} {Q : List V → Hp → Prop} (z : tAg E (.e m :: as) σ H Q) : tCons (tM E m) (tAg E as) σ H Q := by
  obtain ⟨H0, HF, env, ts, fe, ft, s, k⟩ := z
  refine tM_out s ?_
  unfold evA at k
  cases hm : m env with
  | exc C x e => rw [hm] at k; exact k
  | bad => rw [hm] at k; exact k
  | ok v e =>
    rw [hm] at k
    intro H1 H01 x fe1 ft1 e0 s1
    refine ⟨H01, HF, e, _, fe1, ft1, s1, ?_⟩
    dsimp only at k ⊢
    cases hn : evA as e with
    | exc C x' e' => rw [hn] at k; exact KX.drop1 [_] k e0
    | bad => rw [hn] at k; exact k
    | ok vs e' =>
      rw [hn] at k
      intro H2 H02 us fe2 ft2 e02 hl hl2 s2 hs
      exact k H2 H02 (x :: us) fe2 ft2 (e0.trans e02) (by simp [hl]) (by simp [hl2]) (s2.perm List.perm_middle) hs
theorem sh_agV {i : Nat} {σ : L2.St} {H : Hp} {Q : List V → Hp → Prop} (z : tAg E (.v i :: as) σ H Q) : tCons (tVar i) (tAg E as) σ H Q := by
  obtain ⟨H0, HF, env, ts, fe, ft, s, k⟩ := z
  unfold evA at k
  cases he : env[i]? with
  | none => rw [he] at k; exact k.elim
  | some sl =>
    rw [he] at k
    cases sl with
    | un => exact k.elim
    | val kd d =>
      obtain ⟨u, _, hu, _⟩ := s.re.get he
      refine ⟨u, hu, H0, HF, env, ts, fe, ft, s, ?_⟩
      dsimp only at k
      cases hn : evA as env with
      | exc C x' e' => rw [hn] at k; exact k
      | bad => rw [hn] at k; exact k
      | ok vs e' =>
        rw [hn] at k
        exact fun H2 H02 us fe2 ft2 e02 hl hl2 s2 hs => k H2 H02 (u :: us) fe2 ft2 e02 (by simp [hl]) (by simp [hl2]) s2 ⟨hu, hs⟩
theorem sh_agM {i : Nat} {σ : L2.St} {H : Hp} {Q : List V → Hp → Prop} (z : tAg E (.m i :: as) σ H Q) : tCons (tVar i) (tAg E as) σ H Q := by
  obtain ⟨H0, HF, env, ts, fe, ft, s, k⟩ := z
  unfold evA at k
  cases he : env[i]? with
  | none => rw [he] at k; exact k.elim
  | some sl =>
    rw [he] at k
    cases sl with
    | un => exact k.elim
    | val kd d =>
      obtain ⟨u, _, hu, _⟩ := s.re.get he
      refine ⟨u, hu, H0, HF, env, ts, fe, ft, s, ?_⟩
      dsimp only at k
      cases hn : evA as env with
      | exc C x' e' => rw [hn] at k; exact k
      | bad => rw [hn] at k; exact k
      | ok vs e' =>
        rw [hn] at k
        exact fun H2 H02 us fe2 ft2 e02 hl hl2 s2 hs => k H2 H02 (u :: us) fe2 ft2 e02 (by simp [hl]) (by simp [hl2]) s2 ⟨hu, hs⟩
end

/-- the arguments gathered: their kinds, their data, the slots behind it (a slot that is taken is unknown) -/
def gath : Md → List Ag → List (Option Mv) → Env → Option (List Kd × List D × Env)
  | [], [], [], env => some ([], [], env)
  | m :: md, .e _ :: as, some v :: vs, env => (gath md as vs env).bind fun r => some (v.1 :: r.1, v.2 :: r.2.1, r.2.2)
  | m :: md, .v i :: as, none :: vs, env => match env[i]? with
    | some (.val k d) => if k.isZ = true then (gath md as vs env).bind fun r => some (.z :: r.1, d :: r.2.1, r.2.2) else (gath md as vs (env.put i .un)).bind fun r => some (k :: r.1, d :: r.2.1, r.2.2)
    | _ => none
  | m :: md, .m i :: as, none :: vs, env => match env[i]? with
    | some (.val k d) => (gath md as vs (env.put i .un)).bind fun r => some (k :: r.1, d :: r.2.1, r.2.2)
    | _ => none
  | _, _, _, _ => none
section
variable {H0 HF H : Hp} {σ : L2.St} {env : Env} {ts : List Tm} {fe ft : Fp}
theorem S.gath : ∀ {md : Md} {as : List Ag} {vs : List (Option Mv)} {us : List V} {env : Env} {ts : List Tm} {fe ft : Fp} {ks : List Kd} {ds : List D} {env' : Env}, gath md as vs env = some (ks, ds, env') → us.length = as.length → AgS as us σ → S H0 HF H σ env (oT vs us ++ ts) fe ft →
    ds.length = md.length ∧ us.length = md.length ∧ ∃ fe' ft', S H0 HF H σ env' (kT ks ds us ++ ts) fe' ft'
  | [], [], [], [], env, ts, fe, ft, ks, ds, env', h, _, _, s => by cases h; exact ⟨rfl, rfl, fe, ft, s⟩
  | m :: md, .e _ :: as, some v :: vs, u :: us, env, ts, fe, ft, ks, ds, env', h, hl, hs, s => by
    unfold Vt.gath at h
    cases hg : Vt.gath md as vs env with
    | none => rw [hg] at h; cases h
    | some r =>
      rw [hg] at h
      cases h
      obtain ⟨l1, l2, fe', ft', s'⟩ := S.gath (ts := (v.1, v.2, u) :: ts) hg (by simpa using hl) hs (s.perm List.perm_middle.symm)
      exact ⟨by simp [l1], by simp [l2], fe', ft', s'.perm List.perm_middle⟩
  | m :: md, .v i :: as, none :: vs, u :: us, env, ts, fe, ft, ks, ds, env', h, hl, hs, s => by
    unfold Vt.gath at h
    split at h
    · rename_i k d he
      split at h
      · rename_i hz
        have := isZ_eq hz
        subst this
        cases hg : Vt.gath md as vs env with
        | none => rw [hg] at h; cases h
        | some r =>
          rw [hg] at h
          cases h
          obtain ⟨w, f1, hw, rw', _⟩ := s.re.get he
          have : w = u := by have := hs.1; rw [hw] at this; simpa using this
          subst this
          obtain ⟨l1, l2, fe', ft', s'⟩ := S.gath hg (by simpa using hl) hs.2 (ts := (.z, d, w) :: ts) ((s.pushZ (Rk.z_iff.mp rw').1).perm List.perm_middle.symm)
          exact ⟨by simp [l1], by simp [l2], fe', ft', s'.perm List.perm_middle⟩
      · cases hg : Vt.gath md as vs (env.put i .un) with
        | none => rw [hg] at h; cases h
        | some r =>
          rw [hg] at h
          cases h
          obtain ⟨fe1, ft1, w, hw, s1⟩ := s.takeE he
          have : w = u := by have := hs.1; rw [hw] at this; simpa using this
          subst this
          obtain ⟨l1, l2, fe', ft', s'⟩ := S.gath hg (by simpa using hl) hs.2 (ts := (k, d, w) :: ts) (s1.perm List.perm_middle.symm)
          exact ⟨by simp [l1], by simp [l2], fe', ft', s'.perm List.perm_middle⟩
    · cases h
  | m :: md, .m i :: as, none :: vs, u :: us, env, ts, fe, ft, ks, ds, env', h, hl, hs, s => by
    unfold Vt.gath at h
    split at h
    · rename_i k d he
      cases hg : Vt.gath md as vs (env.put i .un) with
      | none => rw [hg] at h; cases h
      | some r =>
        rw [hg] at h
        cases h
        obtain ⟨fe1, ft1, w, hw, s1⟩ := s.takeE he
        have : w = u := by have := hs.1; rw [hw] at this; simpa using this
        subst this
        obtain ⟨l1, l2, fe', ft', s'⟩ := S.gath hg (by simpa using hl) hs.2 (ts := (k, d, w) :: ts) (s1.perm List.perm_middle.symm)
        exact ⟨by simp [l1], by simp [l2], fe', ft', s'.perm List.perm_middle⟩
    · cases h
  | [], [], [], _ :: _, _, _, _, _, _, _, _, _, h, _, _ => by cases h
  | [], _ :: _, _, _, _, _, _, _, _, _, _, h, _, _, _ => by cases h
  | [], [], _ :: _, _, _, _, _, _, _, _, _, h, _, _, _ => by cases h
  | _ :: _, [], _, _, _, _, _, _, _, _, _, h, _, _, _ => by cases h
  | _ :: _, .e _ :: _, [], _, _, _, _, _, _, _, _, h, _, _, _ => by cases h
  | _ :: _, .e _ :: _, none :: _, _, _, _, _, _, _, _, _, h, _, _, _ => by cases h
  | _ :: _, .v _ :: _, [], _, _, _, _, _, _, _, _, h, _, _, _ => by cases h
  | _ :: _, .v _ :: _, some _ :: _, _, _, _, _, _, _, _, _, h, _, _, _ => by cases h
  | _ :: _, .m _ :: _, [], _, _, _, _, _, _, _, _, h, _, _, _ => by cases h
  | _ :: _, .m _ :: _, some _ :: _, _, _, _, _, _, _, _, _, h, _, _, _ => by cases h
  | _ :: _, .e _ :: _, some _ :: _, [], _, _, _, _, _, _, _, _, h, _, _ => by cases h
  | _ :: _, .v _ :: _, none :: _, [], _, _, _, _, _, _, _, _, h, _, _ => by cases h
  | _ :: _, .m _ :: _, none :: _, [], _, _, _, _, _, _, _, _, h, _, _ => by cases h

/-- what the callee hands back, into the slots -/
def putM : Md → List Ag → List D → Env → Option Env
  | none :: md, _ :: as, ms, e => putM md as ms e
  | some k :: md, .m i :: as, m :: ms, e => match e[i]? with
    | some .un => putM md as ms (e.put i (.val k m))
    | _ => none
  | some _ :: md, _ :: as, _ :: ms, e => putM md as ms e
  | _, _, _, e => some e
/-- what it read, into the slots -/
def putV (fz : Bool) : Md → List Ag → List Kd → List D → Env → Option Env
  | none :: md, .v i :: as, k :: ks, d :: ds, e => if k.isZ = true then putV fz md as ks ds e else match e[i]? with
    | some .un => putV fz md as ks ds (e.put i (.val (fzK fz k) d))
    | _ => none
  | none :: md, _ :: as, _ :: ks, _ :: ds, e => putV fz md as ks ds e
  | some _ :: md, _ :: as, _ :: ks, _ :: ds, e => putV fz md as ks ds e
  | _, _, _, _, e => some e
theorem S.putM : ∀ {md : Md} {as : List Ag} {ms : List D} {us : List V} {env env' : Env} {ts : List Tm} {fe ft : Fp}, putM md as ms env = some env' → us.length = as.length → us.length = md.length → AgS as us σ → S H0 HF H σ env (mutT md ms us ++ ts) fe ft → ∃ fe' ft', S H0 HF H σ env' ts fe' ft'
  | [], as, ms, us, env, env', ts, fe, ft, h, hl, hl2, hs, s => by
    have e : us = [] := List.eq_nil_of_length_eq_zero hl2
    subst e
    cases as <;> (cases h; exact ⟨fe, ft, s⟩)
  | none :: md, a :: as, ms, u :: us, env, env', ts, fe, ft, h, hl, hl2, hs, s => by
    have hs' : AgS as us σ := by cases a <;> first | exact hs | exact hs.2
    exact S.putM (md := md) (as := as) (us := us) h (by simpa using hl) (by simpa using hl2) hs' s
  | some k :: md, .m i :: as, m :: ms, u :: us, env, env', ts, fe, ft, h, hl, hl2, hs, s => by
    unfold Vt.putM at h
    split at h
    · rename_i he
      obtain ⟨fe1, ft1, s1⟩ := S.backE (k := k) (d := m) (v := u) s he hs.1
      exact S.putM h (by simpa using hl) (by simpa using hl2) hs.2 s1
    · cases h
  | some k :: md, .e m' :: as, m :: ms, u :: us, env, env', ts, fe, ft, h, hl, hl2, hs, s => by
    obtain ⟨ft1, s1, _⟩ := S.pop (t := (k, m, u)) s
    exact S.putM (md := md) (as := as) (us := us) h (by simpa using hl) (by simpa using hl2) hs s1
  | some k :: md, .v i :: as, m :: ms, u :: us, env, env', ts, fe, ft, h, hl, hl2, hs, s => by
    obtain ⟨ft1, s1, _⟩ := S.pop (t := (k, m, u)) s
    exact S.putM (md := md) (as := as) (us := us) h (by simpa using hl) (by simpa using hl2) hs.2 s1
  | some k :: md, .m i :: as, [], us, env, env', ts, fe, ft, h, hl, hl2, hs, s => by cases h; exact ⟨fe, ft, by cases us <;> exact s⟩
  | some k :: md, .e _ :: as, [], us, env, env', ts, fe, ft, h, hl, hl2, hs, s => by cases h; exact ⟨fe, ft, by cases us <;> exact s⟩
  | some k :: md, .v i :: as, [], us, env, env', ts, fe, ft, h, hl, hl2, hs, s => by cases h; exact ⟨fe, ft, by cases us <;> exact s⟩
  | none :: _, _ :: _, _, [], _, _, _, _, _, _, _, h, _, _ => by cases h
  | some _ :: _, _ :: _, _ :: _, [], _, _, _, _, _, _, _, h, _, _ => by cases h
  | none :: _, [], _, us, _, _, _, _, _, _, hl, h, _, _ => by
    have e : us = [] := List.eq_nil_of_length_eq_zero hl
    subst e; cases h
  | some _ :: _, [], _, us, _, _, _, _, _, _, hl, h, _, _ => by
    have e : us = [] := List.eq_nil_of_length_eq_zero hl
    subst e; cases h
def vT (fz : Bool) : Md → List Kd → List D → List V → List Tm
  | md, ks, ds, us => if fz then viewZ md ds us else viewT md ks ds us
theorem S.putV (fz : Bool) : ∀ {md : Md} {as : List Ag} {ks : List Kd} {ds : List D} {us : List V} {env env' : Env} {ts : List Tm} {fe ft : Fp}, putV fz md as ks ds env = some env' → us.length = as.length → us.length = md.length → ds.length = md.length → ks.length = md.length → AgS as us σ → S H0 HF H σ env (vT fz md ks ds us ++ ts) fe ft → ∃ fe' ft', S H0 HF H σ env' ts fe' ft'
  | [], as, ks, ds, us, env, env', ts, fe, ft, h, hl, hl2, hl3, hl4, hs, s => by
    have e : us = [] := List.eq_nil_of_length_eq_zero hl2
    have e2 : ds = [] := List.eq_nil_of_length_eq_zero hl3
    have e3 : ks = [] := List.eq_nil_of_length_eq_zero hl4
    subst e e2 e3
    cases fz <;> cases as <;> (cases h; exact ⟨fe, ft, s⟩)
  | none :: md, .v i :: as, k :: ks, d :: ds, u :: us, env, env', ts, fe, ft, h, hl, hl2, hl3, hl4, hs, s => by
    unfold Vt.putV at h
    have s' : S H0 HF H σ env ((fzK fz k, d, u) :: (vT fz md ks ds us ++ ts)) fe ft := by cases fz <;> exact s
    split at h
    · obtain ⟨ft1, s1, _⟩ := s'.pop
      exact S.putV fz h (by simpa using hl) (by simpa using hl2) (by simpa using hl3) (by simpa using hl4) hs.2 s1
    · split at h
      · rename_i he
        obtain ⟨fe1, ft1, s1⟩ := s'.backE he hs.1
        exact S.putV fz h (by simpa using hl) (by simpa using hl2) (by simpa using hl3) (by simpa using hl4) hs.2 s1
      · cases h
  | none :: md, .e _ :: as, k :: ks, d :: ds, u :: us, env, env', ts, fe, ft, h, hl, hl2, hl3, hl4, hs, s => by
    have s' : S H0 HF H σ env ((fzK fz k, d, u) :: (vT fz md ks ds us ++ ts)) fe ft := by cases fz <;> exact s
    obtain ⟨ft1, s1, _⟩ := s'.pop
    exact S.putV fz (md := md) (as := as) h (by simpa using hl) (by simpa using hl2) (by simpa using hl3) (by simpa using hl4) hs s1
  | none :: md, .m i :: as, k :: ks, d :: ds, u :: us, env, env', ts, fe, ft, h, hl, hl2, hl3, hl4, hs, s => by
    have s' : S H0 HF H σ env ((fzK fz k, d, u) :: (vT fz md ks ds us ++ ts)) fe ft := by cases fz <;> exact s
    obtain ⟨ft1, s1, _⟩ := s'.pop
    exact S.putV fz (md := md) (as := as) h (by simpa using hl) (by simpa using hl2) (by simpa using hl3) (by simpa using hl4) hs.2 s1
  | some _ :: md, a :: as, k :: ks, d :: ds, u :: us, env, env', ts, fe, ft, h, hl, hl2, hl3, hl4, hs, s => by
    have hs' : AgS as us σ := by cases a <;> first | exact hs | exact hs.2
    have s' : S H0 HF H σ env (vT fz md ks ds us ++ ts) fe ft := by cases fz <;> exact s
    exact S.putV fz (md := md) (as := as) h (by simpa using hl) (by simpa using hl2) (by simpa using hl3) (by simpa using hl4) hs' s'
  | _ :: _, [], _, _, us, _, _, _, _, _, _, hl, h, _, _, _, _ => by
    have e : us = [] := List.eq_nil_of_length_eq_zero hl
    subst e; cases h
  | _ :: _, _ :: _, _, _, [], _, _, _, _, _, _, _, h, _, _, _, _ => by cases h
  | _ :: _, _ :: _, _, [], _ :: _, _, _, _, _, _, _, _, _, h, _, _, _ => by cases h
  | _ :: _, _ :: _, [], _ :: _, _ :: _, _, _, _, _, _, _, _, _, _, h, _, _ => by cases h
end
/-- what is handed back, with its kinds -/
def mutNL : Md → List D → Bool
  | none :: md, ms => mutNL md ms
  | some k :: md, m :: ms => noLeak m k && mutNL md ms
  | _, _ => true
/-- is there a read argument that is owned? -/
def anyView : Md → List Kd → Bool
  | none :: md, k :: ks => !k.isZ || anyView md ks
  | some _ :: md, _ :: ks => anyView md ks
  | _, _ => false
theorem mutNL_T : ∀ {md : Md} {ms : List D} {us : List V}, mutNL md ms = true → noLeakT (mutT md ms us) = true
  | [], _, _, _ => by simp [mutT, noLeakT]
  | none :: md, ms, [], _ => by simp [mutT, noLeakT]
  | none :: md, ms, u :: us, h => mutNL_T (md := md) (us := us) h
  | some k :: md, [], us, _ => by cases us <;> simp [mutT, noLeakT]
  | some k :: md, m :: ms, [], _ => by simp [mutT, noLeakT]
  | some k :: md, m :: ms, u :: us, h => by
    simp only [mutNL, Bool.and_eq_true] at h
    simp only [mutT, noLeakT, Bool.and_eq_true]
    exact ⟨h.1, mutNL_T h.2⟩
def backs (fz : Bool) (md : Md) (as : List Ag) (ks : List Kd) (ds ms : List D) (e : Env) : Option Env := (putM md as ms e).bind fun e2 => putV fz md as ks ds e2
theorem gath_len : ∀ {md : Md} {as : List Ag} {vs : List (Option Mv)} {env : Env} {ks : List Kd} {ds : List D} {env' : Env}, gath md as vs env = some (ks, ds, env') → mdOk md ks = true → ks.length = md.length := by
  intro md as vs env ks ds env' _ h2
  revert ks
  induction md with
  | nil => intro ks h1 h2; cases ks with
    | nil => rfl
    | cons _ _ => cases h2
  | cons m md ih =>
    intro ks h1 h2
    cases ks with
    | nil => cases m <;> cases h2
    | cons k ks =>
      have : ∀ {md : Md} {ks : List Kd}, mdOk md ks = true → ks.length = md.length := by
        intro md
        induction md with
        | nil => intro ks h; cases ks with
          | nil => rfl
          | cons _ _ => cases h
        | cons m md ih =>
          intro ks h
          cases ks with
          | nil => cases m <;> cases h
          | cons k ks =>
            cases m with
            | none => simp [ih (by simpa [mdOk] using h)]
            | some k' => simp only [mdOk, Bool.and_eq_true] at h; simp [ih h.2]
      exact this h2
theorem perm3 {α : Type} (a b c : List α) : (a ++ (b ++ c)).Perm (b ++ (a ++ c)) := by
  have h : ((a ++ b) ++ c).Perm ((b ++ a) ++ c) := List.perm_append_comm.append_right c
  rwa [List.append_assoc, List.append_assoc] at h
/-- what the callee's answer is worth to the caller, the arguments being laid out -/
def resC (md : Md) (F : Fn) (as : List Ag) (vs : List (Option Mv)) (e : Env) : Res Mv := match gath md as vs e with
    | some (ks, ds, e1) => if mdOk md ks = true then match F ds with
        | .ret v ms => match backs (!(noLeak v.2 v.1 && mutNL md ms)) md as ks ds ms e1 with
          | some e3 => .ok v e3
          | none => .bad
        | .exc C x ms => match backs (!(x.flat && mutNL md ms)) md as ks ds ms e1 with
          | some e3 => .exc C x e3
          | none => .bad
        | .bad => .bad
      else .bad
    | none => .bad
def callM (md : Md) (F : Fn) (as : List Ag) : MX Mv := fun env => match evA as env with
  | .ok vs e => resC md F as vs e
  | .exc C x e => .exc C x e
  | .bad => .bad
theorem sp_call {E : XK} {md : Md} {F : Fn} {as : List Ag} {vs : List (Option Mv)} {e : Env} {H0 HF H1 H01 : Hp} {σ : L2.St} {ts : List Tm} {fe1 ft1 : Fp} {us : List V} {Q : VK} (k : KM H0 HF σ ts E Q (resC md F as vs e)) (e0 : Ex H0 H01) (hl : us.length = as.length)
    (s1 : S H01 HF H1 σ e (oT vs us ++ ts) fe1 ft1) (hs : AgS as us σ) : spF md F us H1 Q E := by
  unfold resC at k
  cases hg : gath md as vs e with
  | none => rw [hg] at k; exact k.elim
  | some r =>
  obtain ⟨ks, ds, env1⟩ := r
  rw [hg] at k
  dsimp only at k
  have hmd : mdOk md ks = true := by
    cases q : mdOk md ks with
    | true => rfl
    | false => rw [q, if_neg Bool.false_ne_true] at k; exact k.elim
  rw [if_pos hmd] at k
  obtain ⟨l1, l2, fe2, ft2, s2⟩ := S.gath hg hl hs s1
  have l3 := gath_len hg hmd
  obtain ⟨H0c, HFc, fm, sc, after⟩ := s2.call hmd l1 l2
  refine ⟨H0c, HFc, ds, fm, l2, l1, sc, ?_⟩
  have fin : ∀ (fz : Bool) {H0n H' : Hp} {ftn : Fp} {rs : List Tm} {ms : List D} {e3 : Env}, backs fz md as ks ds ms env1 = some e3 → S H0n HF H' σ env1 (rs ++ (mutT md ms us ++ (vT fz md ks ds us ++ ts))) fe2 ftn → ∃ fe' ft', S H0n HF H' σ e3 (rs ++ ts) fe' ft' := fun fz {H0n H' ftn rs ms e3} hb sx => by
    unfold backs at hb
    cases hp : putM md as ms env1 with
    | none => rw [hp] at hb; cases hb
    | some e2 =>
      rw [hp, Option.bind_some] at hb
      have p1 : (rs ++ (mutT md ms us ++ (vT fz md ks ds us ++ ts))).Perm (mutT md ms us ++ (vT fz md ks ds us ++ (rs ++ ts))) := by
        have a1 : (rs ++ (mutT md ms us ++ (vT fz md ks ds us ++ ts))).Perm (mutT md ms us ++ (rs ++ (vT fz md ks ds us ++ ts))) := perm3 _ _ _
        have a2 : (rs ++ (vT fz md ks ds us ++ ts)).Perm (vT fz md ks ds us ++ (rs ++ ts)) := perm3 _ _ _
        exact a1.trans (a2.append_left _)
      obtain ⟨fe3, ft3, s3⟩ := S.putM hp hl l2 hs (sx.perm p1)
      exact S.putV fz hb hl l2 l1 l3 hs s3
  cases hF : F ds with
  | bad => rw [hF] at k; exact k
  | ret v ms =>
    rw [hF] at k
    dsimp only at k ⊢
    intro H' H0' u ft' ec sr
    cases hb : backs (!(noLeak v.2 v.1 && mutNL md ms)) md as ks ds ms env1 with
    | none => rw [hb] at k; exact k.elim
    | some e3 =>
      rw [hb] at k
      cases hnl : (noLeak v.2 v.1 && mutNL md ms) with
      | true =>
        rw [hnl] at hb
        have hn : noLeakT ((v.1, v.2, u) :: mutT md ms us) = true := by
          rw [Bool.and_eq_true] at hnl
          simp only [noLeakT, Bool.and_eq_true]
          exact ⟨hnl.1, mutNL_T hnl.2⟩
        obtain ⟨H0n, ftn, en, sn, _⟩ := (after _ _ _ _ ec sr).2 hn
        obtain ⟨fe4, ft4, s4⟩ := fin false (rs := [(v.1, v.2, u)]) hb sn
        exact k.ok (e0.trans en) s4
      | false =>
        rw [hnl] at hb
        obtain ⟨H0n, ftn, en, sn, _⟩ := (after _ _ _ _ ec sr).1
        obtain ⟨fe4, ft4, s4⟩ := fin true (rs := [(v.1, v.2, u)]) hb sn
        exact k.ok (e0.trans en) s4
  | exc C x ms =>
    rw [hF] at k
    dsimp only at k ⊢
    intro d H' H0' ft' ec sr xr
    cases hb : backs (!(x.flat && mutNL md ms)) md as ks ds ms env1 with
    | none => rw [hb] at k; exact k.elim
    | some e3 =>
      rw [hb] at k
      cases hnl : (x.flat && mutNL md ms) with
      | true =>
        rw [hnl] at hb
        rw [Bool.and_eq_true] at hnl
        obtain ⟨H0n, ftn, en, sn, xn⟩ := (after _ _ _ _ ec sr).2 (mutNL_T hnl.2)
        obtain ⟨fe4, ft4, s4⟩ := fin false (rs := []) hb sn
        exact k d _ _ _ _ (e0.trans en) s4 (xn x d hnl.1 xr)
      | false =>
        rw [hnl] at hb
        obtain ⟨H0n, ftn, en, sn, xn⟩ := (after _ _ _ _ ec sr).1
        obtain ⟨fe4, ft4, s4⟩ := fin true (rs := []) hb sn
        exact k d _ _ _ _ (e0.trans en) s4 (xn x d xr)
/-- THE CALL -/
theorem sh_call {E : XK} {md : Md} {F : Fn} {as : List Ag} {ta : TA} (hta : ∀ {σ H Q}, tAg E as σ H Q → ta σ H Q) : ShM E (tCall (spF md F) [] E ta) (callM md F as) := by
  intro σ H Q z
  obtain ⟨H0, HF, env, ts, fe, ft, s, k⟩ := tM_in z
  refine hta ⟨H0, HF, env, ts, fe, ft, s, ?_⟩
  unfold callM at k
  cases hv : evA as env with
  | exc C x e => rw [hv] at k; exact k
  | bad => rw [hv] at k; exact k
  | ok vs e =>
  rw [hv] at k
  dsimp only at k
  intro H1 H01 us fe1 ft1 e0 hl hl2 s1 hs
  rw [List.append_nil]
  exact sp_call k e0 hl s1 hs
end Vt

set_option Elab.async false
set_option linter.all false
set_option autoImplicit false
set_option maxRecDepth 100000
set_option maxHeartbeats 1000000
/-! Vt12: defs by their denotations; calls by place and by name. -/
namespace Vt
open PySem L2 PySem.Spec

section
variable {P : Program} {w : World} {K : PySem.W.Frag} {mg : Str → Option Value} {base : Heap}
/-- a def that lets no exception out -/
theorem def_ok0 {x qual : Str} {st : Stmt} {f : Addr} {fd : FuncData} {N ps : List Str} {k : Nat} {md : Md} {body : SX} (F : Fun K x qual st f fd) (Sc : FnScope N ps (defScope st)) (hmd : md.length = ps.length) (hN : md.length ≤ N.length)
    (h : ∀ (cdv : Value) (A : Around) (outer : List PySem.Env) (s : Shared) (H : Hp) (E : XK), Room k (A.deeper (PyProof.Rows.envOfC qual (defScope st) s.heap.objs.size f cdv)) →
      PSs (cxOf CX0 P w K mg base N qual (defScope st) f cdv A outer s H E).nox (defBody st) (tS E (pdFrom 0 md) body)) : FnOk P w K mg base CX0 (k + 1) f fd ps (spF md (mkF md N.length body)) :=
  F.ok Sc (fun vs H Q E q => by obtain ⟨_, _, _, _, q1, _⟩ := q; rw [q1, hmd]) fun cdv A outer s H vs Q E hr q => ⟨_, h cdv A outer s H E hr, fn_body hN q⟩
/-- a def that may let one out -/
theorem def_okX {x qual : Str} {st : Stmt} {f : Addr} {fd : FuncData} {N ps : List Str} {k : Nat} {md : Md} {body : SX} (F : Fun K x qual st f fd) (Sc : FnScope N ps (defScope st)) (hmd : md.length = ps.length) (hN : md.length ≤ N.length)
    (h : ∀ (cdv : Value) (A : Around) (outer : List PySem.Env) (s : Shared) (H : Hp) (E : XK), Room k (A.deeper (PyProof.Rows.envOfC qual (defScope st) s.heap.objs.size f cdv)) →
      PSs (cxOf (L2.CX P w) P w K mg base N qual (defScope st) f cdv A outer s H E) (defBody st) (tS E (pdFrom 0 md) body)) : FnOk P w K mg base (L2.CX P w) (k + 1) f fd ps (spF md (mkF md N.length body)) :=
  F.okX Sc (fun vs H Q E q => by obtain ⟨_, _, _, _, q1, _⟩ := q; rw [q1, hmd]) fun cdv A outer s H vs Q E hr q => ⟨_, h cdv A outer s H E hr, fn_body hN q⟩
/-- the same def by another name of its denotation -/
theorem FnOk.by {CX : CXT} {k : Nat} {f : Addr} {fd : FuncData} {ps : List Str} {md : Md} {F G : Fn} (h : FnOk P w K mg base CX k f fd ps (spF md F)) (e : F = G) : FnOk P w K mg base CX k f fd ps (spF md G) := e ▸ h
theorem spF_len {md : Md} {F : Fn} {vs : List V} {H : Hp} {Q : VK} {E : XK} (q : spF md F vs H Q E) : vs.length = md.length := q.choose_spec.choose_spec.choose_spec.choose_spec.1
end

section
variable {X : Cx} {CX : CXT} {k n : Nat} {f : Addr} {fd : FuncData} {ps ks : List Str} {E : XK} {x : Str} {p pos : Pos} {e : Expr} {es : List Expr} {kws : List Keyword} {md : Md} {F : Fn} {as bs : List Ag}
theorem pass0E : Passes CX0 X E := fun _ _ _ _ _ _ _ h => h.elim
theorem ag_e {m : MX Mv} (ha : PE X e (tM E m)) (hr : PA X es (tAg E as)) (hs : starEach (e :: es) X.env = (false, eval e X.env) :: starEach es X.env := by rfl) : PA X (e :: es) (tAg E (.e m :: as)) := pa_mono (pa_cons ha hr hs) fun _ _ _ z => sh_agE z
theorem ag_v (i : Nat) (ha : PE X e (tVar i)) (hr : PA X es (tAg E as)) (hs : starEach (e :: es) X.env = (false, eval e X.env) :: starEach es X.env := by rfl) : PA X (e :: es) (tAg E (.v i :: as)) := pa_mono (pa_cons ha hr hs) fun _ _ _ z => sh_agV z
theorem ag_m (i : Nat) (ha : PE X e (tVar i)) (hr : PA X es (tAg E as)) (hs : starEach (e :: es) X.env = (false, eval e X.env) :: starEach es X.env := by rfl) : PA X (e :: es) (tAg E (.m i :: as)) := pa_mono (pa_cons ha hr hs) fun _ _ _ z => sh_agM z
theorem em_call (F' : FnOk X.prog X.w X.K X.mg X.base CX k f fd ps (spF md F)) (hr : Room k X.A) (hg : Gl X x) (hm : X.mg x = some (.ref f)) (hk : PySem.W.keepIn X.K (.ref f) = true) (hb : Binds X.K fd ps []) (hx : Passes CX X E) (ha : PA X (e :: es) (tAg E as))
    (hdb : (x == ("__debug__" : Str)) = false := by decide) (he : starEach (e :: es) X.env = (false, eval e X.env) :: starEach es X.env := by rfl) (hpl : (backTo pos (starEach es X.env)).any (·.1) = false := by rfl) : PE X (.Call (.Name x p) (e :: es) [] pos) (tM E (callM md F as)) :=
  pe_mono (pe_call F' hr hg hm hk hb .nil hx ha hdb he hpl) fun _ _ _ z => sh_call (fun q => q) z

/-! ### by name -/
theorem pk_mono {t t' : TA} (h : PK X kws t) (k : ∀ σ H Q, t' σ H Q → t σ H Q) : PK X kws t' := ⟨fun p pins s σ H Q I q => h.run p pins s σ H Q I (k _ _ _ q)⟩
variable {nm : Option Str} {kpos : Pos}
theorem kg_nil : PK X [] (tAg E []) := pk_mono pk_nil fun σ H Q z => by
  obtain ⟨H0, HF, env, ts, fe, ft, s, k⟩ := z
  exact k H H0 [] fe ft (Ex.refl _) rfl rfl s trivial
theorem kg_e {m : MX Mv} (ha : PE X e (tM E m)) (hr : PK X kws (tAg E as)) : PK X (⟨nm, e, kpos⟩ :: kws) (tAg E (.e m :: as)) := pk_mono (pk_cons ha hr) fun _ _ _ z => sh_agE z
theorem kg_v (i : Nat) (ha : PE X e (tVar i)) (hr : PK X kws (tAg E as)) : PK X (⟨nm, e, kpos⟩ :: kws) (tAg E (.v i :: as)) := pk_mono (pk_cons ha hr) fun _ _ _ z => sh_agV z
theorem kg_m (i : Nat) (ha : PE X e (tVar i)) (hr : PK X kws (tAg E as)) : PK X (⟨nm, e, kpos⟩ :: kws) (tAg E (.m i :: as)) := pk_mono (pk_cons ha hr) fun _ _ _ z => sh_agM z
end
def permL {α : Type} (π : List Nat) (l : List α) : List α := π.filterMap fun i => l[i]?
theorem permL_range {α : Type} (l : List α) : permL (List.range l.length) l = l := by
  unfold permL
  induction l with
  | nil => rfl
  | cons a l ih =>
    rw [List.length_cons, List.range_succ_eq_map, List.filterMap_cons]
    simp only [List.getElem?_cons_zero, List.filterMap_map]
    congr 1
theorem permL_perm {α : Type} {π : List Nat} {l : List α} (h : π.Perm (List.range l.length)) : (permL π l).Perm l := by
  have : (permL π l).Perm (permL (List.range l.length) l) := h.filterMap _
  rwa [permL_range] at this
theorem permL_length {α : Type} {π : List Nat} {l : List α} (h : π.Perm (List.range l.length)) : (permL π l).length = l.length := (permL_perm h).length_eq
theorem permL_zip {α β : Type} {π : List Nat} {l : List α} {m : List β} (h : l.length = m.length) : permL π (l.zip m) = (permL π l).zip (permL π m) := by
  unfold permL
  induction π with
  | nil => rfl
  | cons i π ih =>
    by_cases hi : i < l.length
    · have hm : i < m.length := by omega
      have e1 : l[i]? = some l[i] := by simp [hi]
      have e2 : m[i]? = some m[i] := by simp [hm]
      have e3 : (l.zip m)[i]? = some (l[i], m[i]) := by rw [List.getElem?_zip_eq_some]; exact ⟨e1, e2⟩
      rw [List.filterMap_cons_some e1, List.filterMap_cons_some e2, List.filterMap_cons_some e3, List.zip_cons_cons, ih]
    · have e1 : l[i]? = none := by simp; omega
      have e2 : m[i]? = none := by simp; omega
      have e3 : (l.zip m)[i]? = none := by simp [List.length_zip]; omega
      rw [List.filterMap_cons_none e1, List.filterMap_cons_none e2, List.filterMap_cons_none e3, ih]
def oT1 (p : Option Mv × V) : Option Tm := p.1.map fun v => (v.1, v.2, p.2)
theorem oT_zip : ∀ {vs : List (Option Mv)} {us : List V}, oT vs us = (vs.zip us).filterMap oT1
  | [], us => by cases us <;> rfl
  | some v :: vs, [] => rfl
  | none :: vs, [] => rfl
  | some v :: vs, u :: us => by
    rw [List.zip_cons_cons, List.filterMap_cons_some (show oT1 (some v, u) = some (v.1, v.2, u) from rfl), ← oT_zip]
    rfl
  | none :: vs, u :: us => by
    rw [List.zip_cons_cons, List.filterMap_cons_none (show oT1 (none, u) = none from rfl), ← oT_zip]
    rfl
def AgS1 (σ : L2.St) (p : Ag × V) : Prop := match p.1 with
  | .e _ => True
  | .v i => σ[i]? = some (some p.2)
  | .m i => σ[i]? = some (some p.2)
theorem AgS_zip : ∀ {as : List Ag} {us : List V} {σ : L2.St}, AgS as us σ ↔ as.length = us.length ∧ ∀ p ∈ as.zip us, AgS1 σ p
  | [], [], _ => by simp [AgS]
  | .e m :: as, u :: us, σ => by
    rw [List.zip_cons_cons, List.forall_mem_cons]
    show AgS as us σ ↔ _
    rw [AgS_zip]
    simp [AgS1]
  | .v m :: as, u :: us, σ => by
    rw [List.zip_cons_cons, List.forall_mem_cons]
    show (_ ∧ AgS as us σ) ↔ _
    rw [AgS_zip]
    simp only [AgS1, List.length_cons, Nat.add_right_cancel_iff]
    exact ⟨fun ⟨a, b, c⟩ => ⟨b, a, c⟩, fun ⟨b, a, c⟩ => ⟨a, b, c⟩⟩
  | .m m :: as, u :: us, σ => by
    rw [List.zip_cons_cons, List.forall_mem_cons]
    show (_ ∧ AgS as us σ) ↔ _
    rw [AgS_zip]
    simp only [AgS1, List.length_cons, Nat.add_right_cancel_iff]
    exact ⟨fun ⟨a, b, c⟩ => ⟨b, a, c⟩, fun ⟨b, a, c⟩ => ⟨a, b, c⟩⟩
  | [], _ :: _, _ => by simp [AgS]
  | .e _ :: _, [], _ => by simp [AgS]
  | .v _ :: _, [], _ => by simp [AgS]
  | .m _ :: _, [], _ => by simp [AgS]
theorem evA_e {m : MX Mv} {as : List Ag} {env : Env} : evA (.e m :: as) env = match m env with
    | .ok v e => match evA as e with
      | .ok vs e' => .ok (some v :: vs) e'
      | .exc C x e' => .exc C x e'
      | .bad => .bad
    | .exc C x e => .exc C x e
    | .bad => .bad := rfl
theorem evA_v {i : Nat} {as : List Ag} {env : Env} : evA (.v i :: as) env = match env[i]? with
    | some (.val _ _) => match evA as env with
      | .ok vs e' => .ok (none :: vs) e'
      | .exc C x e' => .exc C x e'
      | .bad => .bad
    | _ => .bad := rfl
theorem evA_m {i : Nat} {as : List Ag} {env : Env} : evA (.m i :: as) env = match env[i]? with
    | some (.val _ _) => match evA as env with
      | .ok vs e' => .ok (none :: vs) e'
      | .exc C x e' => .exc C x e'
      | .bad => .bad
    | _ => .bad := rfl
theorem evA_append {as bs : List Ag} {env : Env} : evA (as ++ bs) env = match evA as env with
    | .ok vs e => match evA bs e with
      | .ok ws e' => .ok (vs ++ ws) e'
      | .exc C x e' => .exc C x e'
      | .bad => .bad
    | .exc C x e => .exc C x e
    | .bad => .bad := by
  induction as generalizing env with
  | nil =>
    show evA bs env = match evA bs env with
      | .ok ws e' => .ok ([] ++ ws) e'
      | .exc C x e' => .exc C x e'
      | .bad => .bad
    cases evA bs env <;> rfl
  | cons a as ih =>
    cases a with
    | e m =>
      rw [List.cons_append, evA_e, evA_e]
      cases m env with
      | ok v e =>
        dsimp only
        rw [ih]
        cases evA as e with
        | ok vs e' => dsimp only; cases evA bs e' <;> rfl
        | exc C x e' => rfl
        | bad => rfl
      | exc C x e => rfl
      | bad => rfl
    | v i =>
      rw [List.cons_append, evA_v, evA_v]
      cases env[i]? with
      | none => rfl
      | some s =>
        cases s with
        | un => rfl
        | val k d =>
          dsimp only
          rw [ih]
          cases evA as env with
          | ok vs e' => dsimp only; cases evA bs e' <;> rfl
          | exc C x e' => rfl
          | bad => rfl
    | m i =>
      rw [List.cons_append, evA_m, evA_m]
      cases env[i]? with
      | none => rfl
      | some s =>
        cases s with
        | un => rfl
        | val k d =>
          dsimp only
          rw [ih]
          cases evA as env with
          | ok vs e' => dsimp only; cases evA bs e' <;> rfl
          | exc C x e' => rfl
          | bad => rfl
theorem oT_append : ∀ {vs ws : List (Option Mv)} {us xs : List V}, vs.length = us.length → oT (vs ++ ws) (us ++ xs) = oT vs us ++ oT ws xs
  | [], ws, [], xs, _ => rfl
  | some v :: vs, ws, u :: us, xs, h => by simp only [List.cons_append, oT]; rw [oT_append (by simpa using h)]
  | none :: vs, ws, u :: us, xs, h => by simp only [List.cons_append, oT]; rw [oT_append (by simpa using h)]
  | [], _, _ :: _, _, h => by cases h
  | _ :: _, _, [], _, h => by cases h
theorem AgS_append {as bs : List Ag} {us xs : List V} {σ : L2.St} (h : AgS as us σ) (h' : AgS bs xs σ) : AgS (as ++ bs) (us ++ xs) σ := by
  rw [AgS_zip] at h h' ⊢
  refine ⟨by simp [h.1, h'.1], fun p hp => ?_⟩
  rw [List.zip_append h.1] at hp
  rcases List.mem_append.mp hp with q | q
  · exact h.2 p q
  · exact h'.2 p q
/-- a call, the arguments as written; π: the parameters' places among them -/
def callK (md : Md) (F : Fn) (as : List Ag) (π : List Nat) : MX Mv := fun env => match evA as env with
  | .ok vs e => resC md F (permL π as) (permL π vs) e
  | .exc C x e => .exc C x e
  | .bad => .bad
theorem sh_callK {E : XK} {md : Md} {F : Fn} {as bs : List Ag} {π : List Nat} (hπ : π.Perm (List.range (as.length + bs.length))) : ShM E (tCallN as.length bs.length (spF md F) (fun vs zs => permL π (vs ++ zs)) E (tAg E as) (tAg E bs)) (callK md F (as ++ bs) π) := by
  intro σ H Q z
  obtain ⟨H0, HF, env, ts, fe, ft, s, k⟩ := tM_in z
  refine ⟨H0, HF, env, ts, fe, ft, s, ?_⟩
  unfold callK at k
  rw [evA_append] at k
  cases hv : evA as env with
  | exc C x e => rw [hv] at k; exact k
  | bad => rw [hv] at k; exact k
  | ok vs e =>
  rw [hv] at k
  dsimp only at k ⊢
  intro H1 H01 us fe1 ft1 e0 hl hl2 s1 hs
  refine ⟨H01, HF, e, _, fe1, ft1, s1, ?_⟩
  cases hw : evA bs e with
  | exc C x e' => rw [hw] at k; exact KX.drop1 _ k e0
  | bad => rw [hw] at k; exact k
  | ok ws e' =>
  rw [hw] at k
  dsimp only at k ⊢
  intro H2 H02 xs fe2 ft2 e02 hl' hl2' s2 hs'
  refine ⟨hl, hl', ?_⟩
  have len1 : (us ++ xs).length = as.length + bs.length := by rw [List.length_append]; omega
  have len2 : (vs ++ ws).length = as.length + bs.length := by rw [List.length_append]; omega
  have len3 : (as ++ bs).length = as.length + bs.length := List.length_append
  have sA := AgS_append hs hs'
  have s3 : S H02 HF H2 σ e' (oT (permL π (vs ++ ws)) (permL π (us ++ xs)) ++ ts) fe2 ft2 := by
    refine s2.perm ?_
    have p1 : (oT (permL π (vs ++ ws)) (permL π (us ++ xs))).Perm (oT (vs ++ ws) (us ++ xs)) := by
      rw [oT_zip, oT_zip, ← permL_zip (by omega)]
      refine List.Perm.filterMap _ (permL_perm ?_)
      rw [List.length_zip, len1, len2, Nat.min_self]; exact hπ
    rw [oT_append (by omega)] at p1
    refine List.Perm.trans ?_ (p1.symm.append_right ts)
    rw [← List.append_assoc]
    exact List.perm_append_comm.append_right ts
  have pl1 : (permL π (us ++ xs)).length = as.length + bs.length := (permL_length (l := us ++ xs) (by rw [len1]; exact hπ)).trans len1
  have pl3 : (permL π (as ++ bs)).length = as.length + bs.length := (permL_length (l := as ++ bs) (by rw [len3]; exact hπ)).trans len3
  refine sp_call k (e0.trans e02) ?_ s3 ?_
  · rw [pl1, pl3]
  · rw [AgS_zip] at sA ⊢
    refine ⟨by rw [pl1, pl3], fun p hp => sA.2 p ?_⟩
    rw [← permL_zip (by omega)] at hp
    refine (permL_perm ?_).mem_iff.mp hp
    rw [List.length_zip, len1, len3, Nat.min_self]; exact hπ
theorem vals_permL {π : List Nat} {vs : List V} {us : List Value} (h : Vals vs us) : Vals (permL π vs) (permL π us) := by
  unfold permL
  induction π with
  | nil => exact .nil
  | cons i π ih =>
    cases hv : vs[i]? with
    | none => rw [List.filterMap_cons_none hv, List.filterMap_cons_none (h.none_of hv)]; exact ih
    | some v =>
      obtain ⟨u, hu, r⟩ := h.get hv
      rw [List.filterMap_cons_some hv, List.filterMap_cons_some hu]
      exact .cons r ih
/-- how a call by name binds -/
theorem kbn {K : PySem.W.Frag} {x qual : Str} {st : Stmt} {f : Addr} {fd : FuncData} {ps : List Str} (F : Fun K x qual st f fd) (n : Nat) (ks : List Str) (π : List Nat)
    (h : ∀ (kV doc pm : Value) (an : Option Addr) (cdv ct : Value) (us ws : List Value), us.length = n → ws.length = ks.length → bindArgs (PySem.W.fnOf x qual (defArgs st) (defBody st) (defScope st) .none kV doc pm an cdv ct) ⟨us, ks.zip ws⟩ = pure (ps.zip (permL π (us ++ ws)))) :
    KBn K fd ps n ks (fun us ws => permL π (us ++ ws)) (fun vs zs => permL π (vs ++ zs)) := by
  obtain ⟨oc, od, kV, doc, pm, an, cdv, ct, osl, rfl, lk, hcd⟩ := F.ex
  exact ⟨fun s us ws _ h1 h2 => .of_eq (h kV doc pm an cdv ct us ws h1 h2), fun r1 r2 => vals_permL (r1.append r2)⟩
section
variable {X : Cx} {CX : CXT} {k : Nat} {f : Addr} {fd : FuncData} {ps ks : List Str} {E : XK} {x : Str} {p pos : Pos} {e : Expr} {es : List Expr} {kws : List Keyword} {md : Md} {F : Fn} {as bs : List Ag} {π : List Nat}
theorem em_callN (F' : FnOk X.prog X.w X.K X.mg X.base CX k f fd ps (spF md F)) (hr : Room k X.A) (hg : Gl X x) (hm : X.mg x = some (.ref f)) (hk : PySem.W.keepIn X.K (.ref f) = true) (hb : KBn X.K fd ps as.length ks (fun us ws => permL π (us ++ ws)) (fun vs zs => permL π (vs ++ zs))) (hx : Passes CX X E)
    (ha : PA X (e :: es) (tAg E as)) (hkw : PK X kws (tAg E bs)) (hn : ks.length = bs.length) (hπ : π.Perm (List.range (as.length + bs.length))) (hall : (backToKw pos (keywordEach kws X.env)).all (·.1.isSome) = true := by rfl) (hks : (backToKw pos (keywordEach kws X.env)).filterMap (·.1) = ks := by rfl)
    (hdb : (x == ("__debug__" : Str)) = false := by decide) (he : starEach (e :: es) X.env = (false, eval e X.env) :: starEach es X.env := by rfl)
    (hpl : ((backTo pos (starEach (e :: es) X.env)).any (·.1) || (backToKw pos (keywordEach kws X.env)).any (·.1.isNone)) = false := by rfl) : PE X (.Call (.Name x p) (e :: es) kws pos) (tM E (callK md F (as ++ bs) π)) :=
  pe_mono (pe_callN F' hr hg hm hk hb hx ha hkw hall hks hdb he hpl) fun _ _ _ z => by
    rw [hn]
    exact sh_callK hπ z
theorem pe_callN0 {sp : Sp} {g : List Value → List Value → List Value} {gV : List V → List V → List V} {tk : TA} (F : FnOk X.prog X.w X.K X.mg X.base CX k f fd ps sp) (hr : Room k X.A) (hg : Gl X x) (hm : X.mg x = some (.ref f)) (hk : PySem.W.keepIn X.K (.ref f) = true) (hb : KBn X.K fd ps 0 ks g gV) (hx : Passes CX X E)
    (hkw : PK X kws tk) (hall : (backToKw pos (keywordEach kws X.env)).all (·.1.isSome) = true := by rfl) (hks : (backToKw pos (keywordEach kws X.env)).filterMap (·.1) = ks := by rfl)
    (hdb : (x == ("__debug__" : Str)) = false := by decide)
    (hpl : ((backTo pos (starEach [] X.env)).any (·.1) || (backToKw pos (keywordEach kws X.env)).any (·.1.isNone)) = false := by rfl) :
    PE X (.Call (.Name x p) [] kws pos) (tCallN 0 ks.length sp gV E tNil tk) := by
  refine ⟨fun pins s σ H Q I h => ?_⟩
  refine wpAny_Call_Name_kw (ld_glob I hg hm ?_ hdb)
  refine PySem.W.callWith_KW0 (h₀ := X.base) I.ok.mod.kin hk hall ?_ hpl
  refine thn (hkw.run pos pins s σ H _ I h) fun ws s2 ⟨zs, H2, I2, rz, l1, l2, q2⟩ => ⟨I2.kIn, ?_⟩
  rw [hks]
  exact run_fnN F hr hb hx I2 .nil rz l1 l2 q2
theorem em_callN0 (F' : FnOk X.prog X.w X.K X.mg X.base CX k f fd ps (spF md F)) (hr : Room k X.A) (hg : Gl X x) (hm : X.mg x = some (.ref f)) (hk : PySem.W.keepIn X.K (.ref f) = true) (hb : KBn X.K fd ps 0 ks (fun us ws => permL π (us ++ ws)) (fun vs zs => permL π (vs ++ zs))) (hx : Passes CX X E)
    (hkw : PK X kws (tAg E bs)) (hn : ks.length = bs.length) (hπ : π.Perm (List.range (0 + bs.length))) (hall : (backToKw pos (keywordEach kws X.env)).all (·.1.isSome) = true := by rfl) (hks : (backToKw pos (keywordEach kws X.env)).filterMap (·.1) = ks := by rfl)
    (hdb : (x == ("__debug__" : Str)) = false := by decide)
    (hpl : ((backTo pos (starEach [] X.env)).any (·.1) || (backToKw pos (keywordEach kws X.env)).any (·.1.isNone)) = false := by rfl) : PE X (.Call (.Name x p) [] kws pos) (tM E (callK md F bs π)) :=
  pe_mono (pe_callN0 F' hr hg hm hk hb hx hkw hall hks hdb hpl) fun σ H Q z => by
    rw [hn]
    have := sh_callK (E := E) (md := md) (F := F) (as := []) (bs := bs) (π := π) hπ z
    obtain ⟨H0, HF, env, ts, fe, ft, s, k⟩ := this
    exact k H H0 [] fe ft (Ex.refl _) rfl rfl s trivial
end
end Vt

set_option Elab.async false
set_option linter.all false
set_option autoImplicit false
set_option maxRecDepth 100000
set_option maxHeartbeats 1000000
/-! Vt13: what is walked, with effects; comprehensions with effects. -/
namespace Vt
open PySem L2

section
variable {H0 HF H H0' H' : Hp} {σ : L2.St} {env : Env} {ts : List Tm} {fe ft : Fp} {E : XK}
def KMI (H0 HF : Hp) (σ : L2.St) (ts : List Tm) (E : XK) (R : It → Hp → Prop) : Res (List D) → Prop
  | .ok ds env' => ∀ J H' H0' fe' ft', Ex H0 H0' → S H0' HF H' σ env' ts fe' ft' → Walks H0' H0' J ds → R J H'
  | .exc C x env' => KX H0 HF σ ts E C x env'
  | .bad => False
theorem tMI_in {m : MX (List D)} {R : It → Hp → Prop} (h : tMI E m σ H R) : ∃ H0 HF env ts fe ft, S H0 HF H σ env ts fe ft ∧ KMI H0 HF σ ts E R (m env) := by
  obtain ⟨H0, HF, env, ts, fe, ft, s, k⟩ := h
  refine ⟨H0, HF, env, ts, fe, ft, s, ?_⟩
  cases h : m env <;> rw [h] at k <;> exact k
theorem RfZ.lstOf {K : PySem.W.Frag} {d : D} {xs : List D} {u : V} (h : Rf H0 d u) (hs : d.lstOf = some xs) : ∃ a vs, u = .ref a ∧ SqL K H0 a vs ∧ RfL H0 xs vs := by
  unfold D.lstOf at hs
  split at hs
  · cases hs; obtain ⟨a, dx, vs, h1, h2, _, h3⟩ := h; exact ⟨a, vs, h1, .inl (.inl h2), h3⟩
  · cases hs; obtain ⟨a, dx, vs, h1, ⟨o, h2⟩, _, h3⟩ := h; exact ⟨a, vs, h1, .inl (.inr ⟨o, h2⟩), h3⟩
  · cases hs
theorem walks_itl {K : PySem.W.Frag} {a : Addr} {vs : List V} {ds : List D} (h : SqL K H0 a vs) (r : RfL H0 ds vs) : Walks H0 H0 (Itl K a) ds := fun i H' e' e0' => ⟨fun d hd => by
    obtain ⟨w, q1, q2⟩ := RfL.get r hd
    refine ⟨⟨vs, w, SqL.ex e' h, q1⟩, fun x H'' y => .inl ⟨y.1, ?_⟩⟩
    have := y.2 vs (SqL.ex e' h)
    rw [q1] at this
    cases this
    exact q2, fun hd => ⟨vs, SqL.ex e' h, by rw [RfL.length r]; exact List.getElem?_eq_none_iff.mp hd⟩⟩
def mItL (m : MX Mv) : MX (List D) := fun env => match m env with
  | .ok v e => match v.2.lstOf with
    | some xs => .ok xs e
    | none => .bad
  | .exc C x e => .exc C x e
  | .bad => .bad
theorem sh_mItL {K : PySem.W.Frag} {m : MX Mv} {R : It → Hp → Prop} (z : tMI E (mItL m) σ H R) : iList K (tM E m) σ H R := by
  obtain ⟨H0, HF, env, ts, fe, ft, s, k⟩ := tMI_in z
  refine tM_out s ?_
  unfold mItL at k
  cases hm : m env with
  | exc C x e => rw [hm] at k; exact k
  | bad => rw [hm] at k; exact k
  | ok v e =>
    rw [hm] at k
    dsimp only at k
    obtain ⟨kd, d⟩ := v
    intro H1 H01 u fe1 ft1 e0 s1
    cases hd : d.lstOf with
    | none => rw [hd] at k; exact k.elim
    | some xs =>
      rw [hd] at k
      obtain ⟨H02, ft2, e02, s2⟩ := S.freezeT s1
      obtain ⟨f1, f2, r, _⟩ := id s2.tmp
      obtain ⟨a, vs, rfl, h3, h4⟩ := RfZ.lstOf (K := K) (Rk.z_iff.mp r).1 hd
      obtain ⟨ft3, s3, _⟩ := s2.pop
      exact ⟨a, rfl, ⟨vs, SqL.ex s3.sub h3⟩, k _ _ _ _ _ (e0.trans e02) s3 (walks_itl h3 h4)⟩
def rngC (lo c : Int) (n : Nat) : List D := (List.range n).map fun (i : Nat) => .int (lo + (i : Int) * c)
theorem rngC_get (lo c : Int) (n i : Nat) : (rngC lo c n)[i]? = if i < n then some (.int (lo + (i : Int) * c)) else none := by
  unfold rngC
  rw [List.getElem?_map]
  split
  · rename_i h; rw [List.getElem?_range h]; rfl
  · rename_i h; rw [List.getElem?_eq_none (by simpa using h)]; rfl
theorem walks_rngC {Hs : Hp} (lo c : Int) (n : Nat) : Walks H0 Hs (Itc lo c n) (rngC lo c n) := fun i H e e0 => by
  rw [rngC_get]
  split
  · rename_i h
    refine ⟨fun d hd => ⟨h, fun x H' y => .inl ⟨y.1, ?_⟩⟩, fun hd => by cases hd⟩
    cases hd
    exact y.2
  · rename_i h
    exact ⟨fun d hd => by (cases hd), fun _ => Nat.le_of_not_lt h⟩
def mItR1 (ms : MX (List Mv)) : MX (List D) := fun env => match ms env with
  | .ok [(_, .int j)] e => if rngOk j = true then .ok (rngD 0 j.toNat) e else .bad
  | .ok _ _ => .bad
  | .exc C x e => .exc C x e
  | .bad => .bad
def mItR2 (ms : MX (List Mv)) : MX (List D) := fun env => match ms env with
  | .ok [(_, .int i), (_, .int j)] e => if (rngOk i && rngOk j) = true then .ok (rngD i (j - i).toNat) e else .bad
  | .ok _ _ => .bad
  | .exc C x e => .exc C x e
  | .bad => .bad
/-- range(i, j, -1) -/
def mItR3 (ms : MX (List Mv)) : MX (List D) := fun env => match ms env with
  | .ok [(_, .int i), (_, .int j), (_, .int c)] e => if (rngOk i && rngOk j && decide (c = -1)) = true then .ok (rngC i (-1) (i - j).toNat) e else .bad
  | .ok _ _ => .bad
  | .exc C x e => .exc C x e
  | .bad => .bad
theorem zipT1 {v : Mv} {us : List V} (hl : us.length = [v].length) (s : S H0 HF H σ env (zipT [v] us ++ ts) fe ft) : ∃ u ft', us = [u] ∧ RV H0 H fe (asP v) u ∧ S H0 HF H σ env ts fe ft' := by
  match us, hl with
  | [u], _ =>
    obtain ⟨ft', s', _⟩ := S.pop s
    exact ⟨u, ft', rfl, rv_top s, s'⟩
theorem zipT2 {v w : Mv} {us : List V} (hl : us.length = [v, w].length) (s : S H0 HF H σ env (zipT [v, w] us ++ ts) fe ft) : ∃ u x ft', us = [u, x] ∧ RV H0 H fe (asP v) u ∧ RV H0 H fe (asP w) x ∧ S H0 HF H σ env ts fe ft' := by
  match us, hl with
  | [u, x], _ =>
    obtain ⟨ft', s', _⟩ := S.pop s
    obtain ⟨ft'', s'', _⟩ := S.pop s'
    exact ⟨u, x, ft'', rfl, rv_top s, rv_top s', s''⟩
theorem zipT3 {v w y : Mv} {us : List V} (hl : us.length = [v, w, y].length) (s : S H0 HF H σ env (zipT [v, w, y] us ++ ts) fe ft) : ∃ u x z ft', us = [u, x, z] ∧ RV H0 H fe (asP v) u ∧ RV H0 H fe (asP w) x ∧ RV H0 H fe (asP y) z ∧ S H0 HF H σ env ts fe ft' := by
  match us, hl with
  | [u, x, z], _ =>
    obtain ⟨ft', s', _⟩ := S.pop s
    obtain ⟨ft'', s'', _⟩ := S.pop s'
    obtain ⟨ft3, s3, _⟩ := S.pop s''
    exact ⟨u, x, z, ft3, rfl, rv_top s, rv_top s', rv_top s'', s3⟩
variable {ms : MX (List Mv)}
theorem sh_mItR1 {R : It → Hp → Prop} (z : tMI E (mItR1 ms) σ H R) : iRng1 (tMA E ms) σ H R := by
  obtain ⟨H0, HF, env, ts, fe, ft, s, k⟩ := tMI_in z
  refine tMA_out s ?_
  unfold mItR1 at k
  split at k
  · rename_i j kd e hm
    rw [hm]
    split at k
    · rename_i hj
      intro H1 H01 us fe1 ft1 e0 hl s1
      obtain ⟨u, ft2, rfl, rx, s2⟩ := zipT1 hl s1
      have eu : u = .int kd := rx.rf s1.sub
      subst eu
      exact ⟨_, rfl, (rngOk_iff hj).1, (rngOk_iff hj).2, k _ _ _ _ _ e0 s2 (walks_rng _ _)⟩
    · exact k.elim
  · exact k.elim
  · rename_i hm; rw [hm]; exact k
  · exact k.elim
theorem sh_mItR2 {R : It → Hp → Prop} (z : tMI E (mItR2 ms) σ H R) : iRng2 (tMA E ms) σ H R := by
  obtain ⟨H0, HF, env, ts, fe, ft, s, k⟩ := tMI_in z
  refine tMA_out s ?_
  unfold mItR2 at k
  split at k
  · rename_i k1 i k2 j e hm
    rw [hm]
    split at k
    · rename_i hj
      rw [Bool.and_eq_true] at hj
      intro H1 H01 us fe1 ft1 e0 hl s1
      obtain ⟨u, x, ft2, rfl, rx, ry, s2⟩ := zipT2 hl s1
      have eu : u = .int i := rx.rf s1.sub
      have ex : x = .int j := ry.rf s1.sub
      subst eu ex
      exact ⟨_, _, rfl, ⟨(rngOk_iff hj.1).1, (rngOk_iff hj.1).2, (rngOk_iff hj.2).1, (rngOk_iff hj.2).2⟩, k _ _ _ _ _ e0 s2 (walks_rng _ _)⟩
    · exact k.elim
  · exact k.elim
  · rename_i hm; rw [hm]; exact k
  · exact k.elim
theorem sh_mItR3 {R : It → Hp → Prop} (z : tMI E (mItR3 ms) σ H R) : iRng3 (tMA E ms) σ H R := by
  obtain ⟨H0, HF, env, ts, fe, ft, s, k⟩ := tMI_in z
  refine tMA_out s ?_
  unfold mItR3 at k
  split at k
  · rename_i k1 i k2 j k3 c e hm
    rw [hm]
    split at k
    · rename_i hj
      simp only [Bool.and_eq_true, decide_eq_true_eq] at hj
      intro H1 H01 us fe1 ft1 e0 hl s1
      obtain ⟨u, x, y, ft2, rfl, rx, ry, rz, s2⟩ := zipT3 hl s1
      have eu : u = .int i := rx.rf s1.sub
      have ex : x = .int j := ry.rf s1.sub
      have ez : y = .int c := rz.rf s1.sub
      subst eu ex ez
      obtain ⟨⟨h1, h2⟩, rfl⟩ := hj
      exact ⟨_, _, _, _, rfl, RgC.neg (rngOk_iff h1).1 (rngOk_iff h1).2 (rngOk_iff h2).1 (rngOk_iff h2).2, k _ _ _ _ _ e0 s2 (walks_rngC _ _ _)⟩
    · exact k.elim
  · exact k.elim
  · rename_i hm; rw [hm]; exact k
  · exact k.elim
def mItE (ms : MX (List Mv)) : MX (List D) := fun env => match ms env with
  | .ok [v] e => match v.2.lstOf with
    | some xs => .ok (enumD 0 xs) e
    | none => .bad
  | .ok _ _ => .bad
  | .exc C x e => .exc C x e
  | .bad => .bad
theorem sh_mItE {K : PySem.W.Frag} {R : It → Hp → Prop} (z : tMI E (mItE ms) σ H R) : iEnum K (tMA E ms) σ H R := by
  obtain ⟨H0, HF, env, ts, fe, ft, s, k⟩ := tMI_in z
  refine tMA_out s ?_
  unfold mItE at k
  split at k
  · rename_i v e hm
    rw [hm]
    obtain ⟨kd, d⟩ := v
    intro H1 H01 us fe1 ft1 e0 hl s1
    dsimp only at k
    cases hd : d.lstOf with
    | none => rw [hd] at k; exact k.elim
    | some xs =>
      rw [hd] at k
      match us, hl with
      | [u], _ =>
        obtain ⟨H02, ft2, e02, s2⟩ := S.freezeT (k := kd) (d := d) (v := u) s1
        obtain ⟨f1, f2, r, _⟩ := id s2.tmp
        obtain ⟨a, vs, rfl, h3, h4⟩ := RfZ.lstOf (K := K) (Rk.z_iff.mp r).1 hd
        obtain ⟨ft3, s3, _⟩ := s2.pop
        exact ⟨a, vs, rfl, SqL.ex s3.sub h3, k _ _ _ _ _ (e0.trans e02) s3 (walks_enum h3 h4)⟩
  · exact k.elim
  · rename_i hm; rw [hm]; exact k
  · exact k.elim
def mItZ (ms : MX (List Mv)) : MX (List D) := fun env => match ms env with
  | .ok [v, w] e => match v.2.lstOf, w.2.lstOf with
    | some xs, some ys => .ok (zipD xs ys) e
    | _, _ => .bad
  | .ok _ _ => .bad
  | .exc C x e => .exc C x e
  | .bad => .bad
theorem sh_mItZ {K : PySem.W.Frag} {R : It → Hp → Prop} (z : tMI E (mItZ ms) σ H R) : iZip K (tMA E ms) σ H R := by
  obtain ⟨H0, HF, env, ts, fe, ft, s, k⟩ := tMI_in z
  refine tMA_out s ?_
  unfold mItZ at k
  split at k
  · rename_i v w e hm
    rw [hm]
    obtain ⟨kd, d⟩ := v
    obtain ⟨kd', d'⟩ := w
    intro H1 H01 us fe1 ft1 e0 hl s1
    dsimp only at k
    split at k
    · rename_i xs ys hd hd'
      match us, hl with
      | [u, x], _ =>
        obtain ⟨H02, ft2, e02, s2⟩ := S.freezeT (k := kd) (d := d) (v := u) s1
        obtain ⟨H03, ft3, e03, s3⟩ := S.freezeT (k := kd') (d := d') (v := x) (s2.perm (List.Perm.swap _ _ _))
        obtain ⟨f1, f2, r, ⟨f3, f4, r', _⟩, _⟩ := id s3.tmp
        obtain ⟨a, vs, rfl, h3, h4⟩ := RfZ.lstOf (K := K) (Rk.z_iff.mp r').1 hd
        obtain ⟨b, ws, rfl, h3', h4'⟩ := RfZ.lstOf (K := K) (Rk.z_iff.mp r).1 hd'
        obtain ⟨ft4, s4, _⟩ := s3.pop
        obtain ⟨ft5, s5, _⟩ := s4.pop
        exact ⟨a, b, vs, ws, rfl, SqL.ex s5.sub h3, SqL.ex s5.sub h3', k _ _ _ _ _ (e0.trans (e02.trans e03)) s5 (walks_zip h3 h3' h4 h4')⟩
    · exact k.elim
  · exact k.elim
  · rename_i hm; rw [hm]; exact k
  · exact k.elim
end
section
variable {X : Cx} {E : XK} {tg l a b c : Expr} {pos pp : Pos} {m : MX Mv} {ms : MX (List Mv)}
theorem im_list (h : PE X l (tM E m)) : PI X tg l (tMI E (mItL m)) := pi_mono (pi_list h) fun _ _ _ z => sh_mItL z
theorem im_rng1 (hg : Gl X "range") (hm : X.mg "range" = none) (ha : PA X [a] (tMA E ms)) (hs : starEach [a] X.env = [(false, eval a X.env)] := by rfl) : PI X tg (.Call (.Name "range" pp) [a] [] pos) (tMI E (mItR1 ms)) := pi_mono (pi_range1 hg hm ha hs) fun _ _ _ z => sh_mItR1 z
theorem im_rng2 (hg : Gl X "range") (hm : X.mg "range" = none) (ha : PA X [a, b] (tMA E ms)) (hs : starEach [a, b] X.env = [(false, eval a X.env), (false, eval b X.env)] := by rfl) (hs2 : starEach [b] X.env = [(false, eval b X.env)] := by rfl) :
    PI X tg (.Call (.Name "range" pp) [a, b] [] pos) (tMI E (mItR2 ms)) := pi_mono (pi_range2 hg hm ha hs hs2) fun _ _ _ z => sh_mItR2 z
theorem im_rng3 (hg : Gl X "range") (hm : X.mg "range" = none) (ha : PA X [a, b, c] (tMA E ms)) (hs : starEach [a, b, c] X.env = (false, eval a X.env) :: starEach [b, c] X.env := by rfl) (hpl : (backTo pos (starEach [b, c] X.env)).any (·.1) = false := by rfl) :
    PI X tg (.Call (.Name "range" pp) [a, b, c] [] pos) (tMI E (mItR3 ms)) := pi_mono (pi_range3 hg hm ha hs hpl) fun _ _ _ z => sh_mItR3 z
theorem im_enum {tpos : Pos} {elts : List Expr} {kk : Nat} (hg : Gl X "enumerate") (hm : X.mg "enumerate" = none) (ha : PA X [a] (tMA E ms)) (hs : starEach [a] X.env = [(false, eval a X.env)] := by rfl) :
    PI X (.Tuple elts kk tpos) (.Call (.Name "enumerate" pp) [a] [] pos) (tMI E (mItE ms)) := pi_mono (pi_enum hg hm ha hs) fun _ _ _ z => sh_mItE z
theorem im_zip {tpos : Pos} {elts : List Expr} {kk : Nat} (hg : Gl X "zip") (hm : X.mg "zip" = none) (ha : PA X [a, b] (tMA E ms))
    (hs : starEach [a, b] X.env = (false, eval a X.env) :: starEach [b] X.env := by rfl) (hpl : (backTo pos (starEach [b] X.env)).any (·.1) = false := by rfl) :
    PI X (.Tuple elts kk tpos) (.Call (.Name "zip" pp) [a, b] [] pos) (tMI E (mItZ ms)) := pi_mono (pi_zip hg hm ha hs hpl) fun _ _ _ z => sh_mItZ z
end

/-! ### comprehensions with effects -/
def restE (own : List Nat) : Nat → Env → Env → Env
  | n, s :: o, c :: e => (if own.contains n then s else c) :: restE own (n + 1) o e
  | _, _, _ => []
def OwnR (H0 : Hp) (own : List Nat) : Nat → Env → L2.St → Prop
  | n, s :: e, o :: us => (own.contains n = true → ∀ k d, s = .val k d → ∃ v, o = some v ∧ Rf H0 d v) ∧ OwnR H0 own (n + 1) e us
  | _, [], [] => True
  | _, _, _ => False
theorem OwnR.mono {H0 H0' : Hp} {own : List Nat} (e : Ex H0 H0') : ∀ {n : Nat} {env : Env} {σ : L2.St}, OwnR H0 own n env σ → OwnR H0' own n env σ
  | n, s :: env, o :: us, h => ⟨fun q k d z => let ⟨v, a, b⟩ := h.1 q k d z; ⟨v, a, b.mono e⟩, OwnR.mono e h.2⟩
  | _, [], [], _ => trivial
  | _, [], _ :: _, h => h.elim
  | _, _ :: _, [], h => h.elim
theorem RkE.ownR {H0 H : Hp} {own : List Nat} : ∀ {n : Nat} {env : Env} {σ : L2.St} {f : Fp}, ownZ own n env = true → RkE H0 H env σ f → OwnR H0 own n env σ
  | n, [], σ, f, _, h => by
    have e : σ = [] := h.1
    subst e; trivial
  | n, s :: env, σ, f, hz, h => by
    obtain ⟨o, us, f1, f2, rfl, r1, r2, _⟩ := h
    simp only [ownZ, Bool.and_eq_true, Bool.or_eq_true, Bool.not_eq_true'] at hz
    refine ⟨fun q k d z => ?_, RkE.ownR hz.2 r2⟩
    subst z
    rcases hz.1 with y | y
    · rw [q] at y; cases y
    · have ek : k = .z := isZ_eq y
      subst ek
      obtain ⟨v, a, b⟩ := r1
      exact ⟨v, a, (Rk.z_iff.mp b).1⟩
theorem RkE.rest {H0 H : Hp} {own : List Nat} : ∀ {n : Nat} {orig cur : Env} {σ σw : L2.St} {f : Fp}, orig.length = cur.length → ownZ own n orig = true → ownZ own n cur = true → OwnR H0 own n orig σ → (∀ j, own.contains (n + j) = false → σw[j]? = σ[j]?) → RkE H0 H cur σw f → RkE H0 H (restE own n orig cur) σ f
  | n, [], [], σ, σw, f, _, _, _, ho, _, h => by
    cases σ with
    | nil => exact ⟨rfl, h.2⟩
    | cons _ _ => exact ho.elim
  | n, s :: orig, c :: cur, σ, σw, f, hl, hz, hz', ho, hσ, h => by
    obtain ⟨o, us, f1, f2, rfl, r1, r2, r3⟩ := h
    simp only [ownZ, Bool.and_eq_true, Bool.or_eq_true, Bool.not_eq_true'] at hz hz'
    cases σ with
    | nil => exact ho.elim
    | cons o' us' =>
    have ih := RkE.rest (n := n + 1) (by simpa using hl) hz.2 hz'.2 ho.2 (fun j hj => by simpa using hσ (j + 1) (by rw [show n + (j + 1) = n + 1 + j by omega]; exact hj)) r2
    refine ⟨o', us', f1, f2, rfl, ?_, ih, r3⟩
    by_cases q : own.contains n = true
    · rw [if_pos q]
      have z1 : ∀ x, f1 x = 0 := by
        rcases hz'.1 with y | y
        · rw [q] at y; cases y
        · exact r1.zero y
      cases s with
      | un => exact z1
      | val k d =>
        obtain ⟨v, a, b⟩ := ho.1 q k d rfl
        have ek : k = .z := by
          rcases hz.1 with y | y
          · rw [q] at y; cases y
          · exact isZ_eq y
        subst ek
        exact ⟨v, a, Rk.z_iff.mpr ⟨b, z1⟩⟩
    · rw [if_neg q]
      have : o = o' := by
        have := hσ 0 (by simpa using q)
        simpa using this
      subst this
      exact r1
  | _, [], _ :: _, _, _, _, h, _, _, _, _, _ => by cases h
  | _, _ :: _, [], _, _, _, h, _, _, _, _, _ => by cases h
def mcGo (own : List Nat) (pt : Pat) (cond : MX Bool) (elt : MX Mv) (k : Kd) : List D → Env → Res (List D)
  | [], env => .ok [] env
  | d :: ds, env => match bnd pt d env with
    | none => .bad
    | some e1 => match cond e1 with
      | .ok true e2 => match elt e2 with
        | .ok v e3 => if (Kd.beq v.1 k && ownZ own 0 e3) = true then match mcGo own pt cond elt k ds (wipeE own 0 e3) with
            | .ok r e => .ok (v.2 :: r) e
            | _ => .bad
          else .bad
        | _ => .bad
      | .ok false e2 => if ownZ own 0 e2 = true then mcGo own pt cond elt k ds (wipeE own 0 e2) else .bad
      | _ => .bad
def mComp (own : List Nat) (it : MX (List D)) (pt : Pat) (cond : MX Bool) (k : Kd) (elt : MX Mv) : MX Mv := fun env => match it env with
  | .ok ds e => if (decide (ds.length ≤ 100000) && ownZ own 0 e) = true then match mcGo own pt cond elt k ds (wipeE own 0 e) with
      | .ok xs e' => .ok (.all k, .nd .lst xs) (restE own 0 e e')
      | _ => .bad
    else .bad
  | .exc C x e => .exc C x e
  | .bad => .bad
theorem ownZ_wipe {own : List Nat} : ∀ {env : Env} {n : Nat}, ownZ own n (wipeE own n env) = true
  | [], n => rfl
  | s :: e, n => by
    simp only [wipeE, ownZ, Bool.and_eq_true]
    refine ⟨?_, ownZ_wipe⟩
    cases h : own.contains n with
    | true => rw [if_pos rfl]; rfl
    | false => rfl
theorem bnd_ownZ {pt : Pat} {d : D} {env env' : Env} (h : bnd pt d env = some env') : env'.length = env.length := bnd_length h
theorem wipe_wipe {σ : L2.St} {own : List Nat} : wipe (wipe σ own) own = wipe σ own := wipe_eq (wipe_length _ _) fun j hj => wipe_get hj
theorem sh_mComp {E : XK} {own : List Nat} {it : MX (List D)} {pt : Pat} {cond : MX Bool} {k : Kd} {elt : MX Mv} (hsl : pt.slots.all own.contains = true) : ShM E (tLc (tMI E it) (tG pt) (tMT E cond) (tM E elt) own) (mComp own it pt cond k elt) := by
  intro σ H Q z
  obtain ⟨H0, HF, env, ts, fe, ft, s, kk⟩ := tM_in z
  refine ⟨H0, HF, env, ts, fe, ft, s, ?_⟩
  unfold mComp at kk
  cases hit : it env with
  | exc C x e => rw [hit] at kk; exact kk
  | bad => rw [hit] at kk; exact kk
  | ok ds e =>
  rw [hit] at kk
  dsimp only at kk
  have hc : (decide (ds.length ≤ 100000) && ownZ own 0 e) = true := by
    cases q : (decide (ds.length ≤ 100000) && ownZ own 0 e) with
    | true => rfl
    | false => rw [q, if_neg Bool.false_ne_true] at kk; exact kk.elim
  rw [if_pos hc] at kk
  rw [Bool.and_eq_true] at hc
  have hlen : ds.length ≤ 100000 := of_decide_eq_true hc.1
  cases hgo : mcGo own pt cond elt k ds (wipeE own 0 e) with
  | exc C x e' => rw [hgo] at kk; exact kk.elim
  | bad => rw [hgo] at kk; exact kk.elim
  | ok xs eEnd =>
  rw [hgo] at kk
  dsimp only at kk
  intro J H1 H01 fe1 ft1 e0 s1 w D hD
  have sw := s1.wiped (own := own) hc.2
  have hO := RkE.ownR hc.2 s1.re
  have hslot : ∀ i, i ∈ pt.slots → own.contains i = true := List.all_eq_true.mp hsl
  refine ⟨fun i m H' => m = ds.length - i ∧ i ≤ ds.length ∧ ∃ H0i ei acc rest fei fti, Ex H01 H0i ∧ ei.length = e.length ∧ ownZ own 0 ei = true ∧ S H0i HF H' (wipe σ own) ei ((.all k, .nd .lst acc, .ref D) :: ts) fei fti ∧
    mcGo own pt cond elt k (ds.drop i) ei = .ok rest eEnd ∧ acc ++ rest = xs ∧ acc.length ≤ i, ⟨_, rfl, Nat.zero_le _, H01, _, [], xs, _, _, Ex.refl _, wipeE_length _ _ _, ownZ_wipe,
      (sw.allocM (o := .lst []) hD trivial).pushO (cs := []) (p := D) (d := .nd .lst []) (k := .all k) (sw.sub.none hD) (sw.frm.none hD) (sw.free hD) (fun g hg =>
        (Rk.nd_iff rfl).mpr ⟨D, 0, [], fun _ => 0, rfl, by rw [if_neg (by decide)]; exact ⟨upd_same, fun x => by have := hg x; dsimp only; omega⟩, trivial, rfl, fun _ => rfl⟩), hgo, rfl, Nat.le_refl _⟩, ?_⟩
  rintro i m H' ⟨rfl, hi, H0i, ei, acc, rest, fei, fti, e0i, hel, hez, si, hgi, hacc, hal⟩
  obtain ⟨w1, w2⟩ := w i H' (e0i.trans si.sub) (e0i.trans si.sub)
  by_cases hlt : i < ds.length
  · obtain ⟨d, hd⟩ : ∃ d, ds[i]? = some d := ⟨ds[i], by simp [hlt]⟩
    obtain ⟨hgo', hy⟩ := w1 d hd
    refine .inr ⟨hgo', fun H' => ∃ H0i ei acc rest fei fti, Ex H01 H0i ∧ ei.length = e.length ∧ ownZ own 0 ei = true ∧ S H0i HF H' (wipe σ own) ei ((.all k, .nd .lst acc, .ref D) :: ts) fei fti ∧
      mcGo own pt cond elt k (ds.drop (i + 1)) ei = .ok rest eEnd ∧ acc ++ rest = xs ∧ acc.length ≤ i + 1, fun H'' q => ⟨ds.length - (i + 1), by omega, rfl, hlt, q⟩, fun x H'' y => ?_⟩
    have hdrop : ds.drop i = d :: ds.drop (i + 1) := by
      rw [List.drop_eq_getElem_cons hlt]
      congr 1
      exact (List.getElem?_eq_some_iff.mp hd).2
    rw [hdrop] at hgi
    unfold mcGo at hgi
    obtain ⟨H02, e02, e2, s2, r2⟩ := si.yield (by
      rcases hy x H'' y with ⟨a, b⟩ | ⟨p, vs, xs', a, b, c, dd, ee⟩
      · exact .inl ⟨a, b.mono e0i⟩
      · exact .inr ⟨p, vs, xs', a, b, c, dd, RfL.mono e0i ee⟩)
    cases hb : bnd pt d ei with
    | none => rw [hb] at hgi; cases hgi
    | some env1 =>
    rw [hb] at hgi
    dsimp only at hgi
    refine ⟨H02, HF, _, _, fei, fti, d, env1, s2, r2, hb, fun σ2 fe2 ft2 s3 hσ hz => ?_⟩
    have hl2 : σ2.length = σ.length := by rw [s3.len, bnd_length hb, hel, s1.len]
    have hwipe : wipe σ2 own = wipe σ own := wipe_eq hl2 fun j hj => by
      rw [hσ j (fun hm => by rw [hslot j hm] at hj; cases hj), wipe_get hj]
    refine ⟨by rw [hwipe], ?_⟩
    refine tMT_out s3 ?_
    cases hcd : cond env1 with
    | exc C x e' => rw [hcd] at hgi; cases hgi
    | bad => rw [hcd] at hgi; cases hgi
    | ok b env2 =>
    rw [hcd] at hgi
    cases b with
    | false =>
      dsimp only at hgi
      have hz2 : ownZ own 0 env2 = true := by
        cases q : ownZ own 0 env2 with
        | true => rfl
        | false => rw [q, if_neg Bool.false_ne_true] at hgi; cases hgi
      rw [if_pos hz2] at hgi
      intro H3 H03 fe3 ft3 e03 s4
      have s5 := s4.wiped (own := own) hz2
      rw [hwipe] at s5
      refine iteF ⟨H03, _, acc, rest, fe3, ft3, e0i.trans (e02.trans e03), ?_, ownZ_wipe, s5, hgi, hacc, by omega⟩
      rw [wipeE_length, ← s4.len, hl2, s1.len]
    | true =>
      dsimp only at hgi
      intro H3 H03 fe3 ft3 e03 s4
      refine iteT (tM_out s4 ?_)
      cases hel' : elt env2 with
      | exc C x e' => rw [hel'] at hgi; cases hgi
      | bad => rw [hel'] at hgi; cases hgi
      | ok v env3 =>
      rw [hel'] at hgi
      dsimp only at hgi
      have hv : (Kd.beq v.1 k && ownZ own 0 env3) = true := by
        cases q : (Kd.beq v.1 k && ownZ own 0 env3) with
        | true => rfl
        | false => rw [q, if_neg Bool.false_ne_true] at hgi; cases hgi
      rw [if_pos hv] at hgi
      rw [Bool.and_eq_true] at hv
      have hvk := Kd.beq_eq hv.1
      obtain ⟨vk, vd⟩ := v
      dsimp only at hvk
      subst hvk
      cases hr : mcGo own pt cond elt vk (ds.drop (i + 1)) (wipeE own 0 env3) with
      | exc C x e' => rw [hr] at hgi; cases hgi
      | bad => rw [hr] at hgi; cases hgi
      | ok r er =>
      rw [hr] at hgi
      cases hgi
      intro H4 H04 yv fe4 ft4 e04 s5
      obtain ⟨vs, ft5, h1, h2, s6⟩ := S.growT s5
      have s7 := s6.wiped (own := own) hv.2
      rw [hwipe] at s7
      refine ⟨vs, h1, ?_, H04, _, acc ++ [vd], r, _, ft5, e0i.trans (e02.trans (e03.trans e04)), ?_, ownZ_wipe, s7, hr, by rw [List.append_assoc]; exact hacc, by rw [List.length_append]; simp; omega⟩
      · rw [h2]
        exact Nat.lt_of_le_of_lt hal (Nat.lt_of_lt_of_le hlt (le_line hlen))
      · rw [wipeE_length, ← s6.len, hl2, s1.len]
  · have hn : ds[i]? = none := List.getElem?_eq_none_iff.mpr (by omega)
    refine .inl ⟨w2 hn, ?_⟩
    have hi' : i = ds.length := by omega
    subst hi'
    rw [List.drop_length] at hgi
    cases hgi
    rw [List.append_nil] at hacc
    subst hacc
    have sb : S H0i HF H' σ (restE own 0 e eEnd) ((.all k, .nd .lst acc, .ref D) :: ts) fei fti := si.env_back (RkE.rest hel.symm hc.2 hez (hO.mono e0i) (fun j hj => wipe_get (by simpa using hj)) si.re)
    exact kk H' H0i (.ref D) fei fti (e0.trans e0i) sb
theorem tsm_yes {X : Cx} {E : XK} : PTs X [] (tMT E (mtP pYes)) := ⟨fun pins s σ H Q I hw => by
  obtain ⟨H0, HF, env, ts, fe, ft, st, k⟩ := tMT_in hw
  exact pts_nil.run pins s σ H Q I (k H H0 fe ft (Ex.refl _) st)⟩
theorem em_lc {X : Cx} {E : XK} {elt tg iter : Expr} {ifs : List Expr} {scope : Scope} {own : List (Str × Nat)} {pos : Pos} {it : MX (List D)} {pt : Pat} {cond : MX Bool} {k : Kd} {m : MX Mv} (hc : X.calm = true) (hN : X.N.Nodup) (hi : PI X tg iter (tMI E it)) (ok : BlkOk X.N X.env.scope scope own)
    (hg : ∀ (s : Shared) (H : Hp) (C : Addr) (cl : List (Str × Addr)) (fp : List Addr), PG (X.blk s H scope (compEnvC scope cl C X.env) fp) tg (tG pt)) (ht : ∀ (s : Shared) (H : Hp) (C : Addr) (cl : List (Str × Addr)) (fp : List Addr), PTs (X.blk s H scope (compEnvC scope cl C X.env) fp) ifs (tMT E cond))
    (he : ∀ (s : Shared) (H : Hp) (C : Addr) (cl : List (Str × Addr)) (fp : List Addr), PE (X.blk s H scope (compEnvC scope cl C X.env) fp) elt (tM E m)) (hsl : pt.slots.all (own.map (·.2)).contains = true := by rfl) (hs : ∀ x, foldedSetIterable iter X.env x = pure x := by intro _; rfl) :
    PE X (.ListComp elt [⟨tg, iter, ifs, 0⟩] scope pos) (tM E (mComp (own.map (·.2)) it pt cond k m)) :=
  pe_mono (pe_lc hc hN hi ok hg ht he hs) fun _ _ _ z => sh_mComp hsl z
/-- y = [..] on one line -/
theorem st_asgLc {X : Cx} {E : XK} {pd : List Nat} {i : Nat} {fz : Bool} {st : Stmt} {itT : TI} {pt : Pat} {cond : MX Bool} {it : MX (List D)} {k : Kd} {m : MX Mv} {own : List Nat} (h : PS X st (tAsg (tLc (tMI E it) (tG pt) (tMT E cond) (tM E m) own) (gName i))) (hsl : pt.slots.all own.contains = true := by rfl) (hp : pd.contains i = false := by rfl) :
    PS X st (tS E pd (asgS i fz (mComp own it pt cond k m))) := ps_mono h fun _ _ _ z => sh_asg (sh_mComp hsl) hp z
theorem st_asgLcP {X : Cx} {E : XK} {pd : List Nat} {i : Nat} {fz : Bool} {st : Stmt} {pt : Pat} {cond : Env → Option Bool} {it : Env → Option (List D)} {k : Kd} {p : PX} {own : List Nat} (h : PS X st (tAsg (tLc (tPI it) (tG pt) (tPT cond) (tP p) own) (gName i))) (hsl : pt.slots.all own.contains = true := by rfl) (hp : pd.contains i = false := by rfl) :
    PS X st (tS E pd (asgS i fz (mP (pComp own it pt cond k p)))) := ps_mono h fun _ _ _ z => sh_asg (fun q => sh_comp hsl (sh_mP q)) hp z
end Vt

set_option Elab.async false
set_option linter.all false
set_option autoImplicit false
set_option maxRecDepth 100000
set_option maxHeartbeats 1000000
/-! Vt14: owned lists are changed: where they stand, what their methods do. -/
namespace Vt
open PySem L2

/-! ### a list's children as temporaries -/
def cT (k : Kd) : List D → List V → List Tm
  | d :: ds, v :: vs => (k, d, v) :: cT k ds vs
  | _, _ => []
section
variable {H0 H : Hp} {k : Kd}
theorem RkL.toT : ∀ {xs : List D} {vs : List V} {g : Fp}, RkL H0 H xs (fun _ => k) vs g ↔ vs.length = xs.length ∧ RkT H0 H (cT k xs vs) g
  | [], vs, g => by
    constructor
    · intro h
      have e : vs = [] := h.1
      subst e
      exact ⟨rfl, h.2⟩
    · intro h
      have e : vs = [] := List.eq_nil_of_length_eq_zero h.1
      subst e
      exact ⟨rfl, h.2⟩
  | d :: ds, vs, g => by
    constructor
    · intro h
      obtain ⟨u, us, f1, f2, rfl, r1, r2, r3⟩ := h
      obtain ⟨a, b⟩ := RkL.toT.mp r2
      exact ⟨by simp [a], f1, f2, r1, b, r3⟩
    · intro h
      obtain ⟨h1, h2⟩ := h
      cases vs with
      | nil => cases h1
      | cons u us =>
        obtain ⟨f1, f2, r1, r2, r3⟩ := h2
        exact ⟨u, us, f1, f2, rfl, r1, RkL.toT.mpr ⟨by simpa using h1, r2⟩, r3⟩
theorem cT_append : ∀ {xs ys : List D} {vs ws : List V}, vs.length = xs.length → cT k (xs ++ ys) (vs ++ ws) = cT k xs vs ++ cT k ys ws
  | [], ys, [], ws, _ => rfl
  | d :: xs, ys, v :: vs, ws, h => by simp only [List.cons_append, cT]; rw [cT_append (by simpa using h)]
  | [], _, _ :: _, _, h => by cases h
  | _ :: _, _, [], _, h => by cases h
theorem cT_get : ∀ {xs : List D} {vs : List V} {j : Nat} {d : D} {v : V}, xs[j]? = some d → vs[j]? = some v → vs.length = xs.length → (cT k xs vs).Perm ((k, d, v) :: cT k (xs.eraseIdx j) (vs.eraseIdx j))
  | [], _, j, _, _, h, _, _ => by simp at h
  | d :: xs, [], _, _, _, _, _, h => by cases h
  | d :: xs, v :: vs, 0, _, _, h, h', _ => by
    simp at h h'; subst h h'
    exact List.Perm.refl _
  | d :: xs, v :: vs, j + 1, d', v', h, h', hl => by
    have ih := cT_get (j := j) (xs := xs) (vs := vs) (by simpa using h) (by simpa using h') (by simpa using hl)
    simp only [cT, List.eraseIdx_cons_succ]
    exact (ih.cons _).trans (List.Perm.swap _ _ _)
theorem cT_reverse : ∀ {xs : List D} {vs : List V}, vs.length = xs.length → (cT k xs.reverse vs.reverse).Perm (cT k xs vs)
  | [], [], _ => List.Perm.refl _
  | d :: xs, v :: vs, h => by
    have hl : vs.length = xs.length := by simpa using h
    rw [List.reverse_cons, List.reverse_cons, cT_append (by simp [hl])]
    exact (List.perm_append_comm.trans ((cT_reverse hl).cons _))
  | [], _ :: _, h => by cases h
  | _ :: _, [], h => by cases h
theorem RkL.length_erase {α : Type} {xs : List α} {j : Nat} (h : j < xs.length) : (xs.eraseIdx j).length = xs.length - 1 := List.length_eraseIdx_of_lt h
end

section
variable {H0 HF H H0' H' : Hp} {σ : L2.St} {env : Env} {ts : List Tm} {fe ft : Fp}
theorem S.lstAt {cs : List Tm} {k0 : Kd} {xs : List D} {p : Addr} (s : S H0 HF H σ env (cs ++ (k0, .nd .lst xs, .ref p) :: ts) fe ft) (hk : k0.isZ = false) : ∃ vs, H p = some (.lst vs) ∧ vs.length = xs.length := by
  obtain ⟨gc, g2, qc, ⟨fn, f4, qn, q4, e2⟩, e1⟩ := s.tmp.split
  obtain ⟨a, dx, vs, g, ea, q5, q6, q7⟩ := (Rk.nd_iff hk).mp qn
  cases ea
  rw [if_neg (by decide)] at q5
  exact ⟨vs, q5.1, RkL.length q7⟩
theorem S.lstKids {cs : List Tm} {k0 : Kd} {xs : List D} {p : Addr} {vs : List V} (s : S H0 HF H σ env (cs ++ (k0, .nd .lst xs, .ref p) :: ts) fe ft) (hk : k0.isZ = false) (hv : H p = some (.lst vs)) : ∃ g, RkL H0 H xs k0.kid vs g := by
  obtain ⟨gc, g2, qc, ⟨fn, f4, qn, q4, e2⟩, e1⟩ := s.tmp.split
  obtain ⟨a, dx, vs', g, ea, q5, q6, q7⟩ := (Rk.nd_iff hk).mp qn
  cases ea
  rw [if_neg (by decide)] at q5
  have := q5.1
  rw [hv] at this
  cases this
  exact ⟨g, q7⟩
/-- an owned list of a temporary gets another content -/
theorem S.setT {cs : List Tm} {k0 : Kd} {xs : List D} {p : Addr} {vs : List V} (s : S H0 HF H σ env (cs ++ (k0, .nd .lst xs, .ref p) :: ts) fe ft) (hk : k0.isZ = false) (hv : H p = some (.lst vs)) (rs : List Tm) (xs' : List D) (vs' : List V)
    (mk : ∀ gc g, RkT H0 H cs gc → RkL H0 H xs k0.kid vs g → ∃ gr g', RkT H0 H rs gr ∧ RkL H0 H xs' k0.kid vs' g' ∧ ∀ x, gr x + g' x ≤ gc x + g x) :
      ∃ ft', S H0 HF (upd H p (.lst vs')) σ env (rs ++ (k0, .nd .lst xs', .ref p) :: ts) fe ft' := by
  obtain ⟨gc, g2, qc, ⟨fn, f4, qn, q4, e2⟩, e1⟩ := s.tmp.split
  obtain ⟨a, dx, vs0, g, ea, q5, q6, q7⟩ := (Rk.nd_iff hk).mp qn
  cases ea
  rw [if_neg (by decide)] at q5
  have ev := q5.1
  rw [hv] at ev
  cases ev
  obtain ⟨gr, g', r1, r2, r3⟩ := mk gc g qc q7
  have hp1 : 1 ≤ fn p := by rw [q5.2]; simp [one]
  have u1 := s.uniq p
  have u2 := e1 p
  have u3 := e2 p
  have u4 := q5.2 p
  have u5 := r3 p
  have hone : one p p = 1 := by simp [one]
  have h0p : H0 p = none := s.s0 p (by omega)
  have hFp : HF p = none := s.sF p (by omega)
  have hne : ∀ x, x ≠ p → ∀ o, H x = some o → upd H p (.lst vs') x = some o := fun x e o q => by rw [upd_ne e]; exact q
  have keep : ∀ (f : Fp), f p = 0 → ∀ x o, 1 ≤ f x → H x = some o → upd H p (.lst vs') x = some o := fun f hf x o hx q => hne x (fun e => by subst e; omega) o q
  have k1 := RkT.mono (Ex.refl H0) (keep gr (by omega)) r1
  have k2 := RkL.mono (Ex.refl H0) (keep g' (by omega)) r2
  have k3 := RkT.mono (Ex.refl H0) (keep f4 (by omega)) q4
  have bound : ∀ x, gr x + (g' x + one p x + f4 x) ≤ ft x := fun x => by have := e1 x; have := e2 x; have := q5.2 x; have := r3 x; omega
  refine ⟨fun x => gr x + (g' x + one p x + f4 x), fun x o q => hne x (fun e => ?_) o (s.sub x o q), fun x o q => hne x (fun e => ?_) o (s.frm x o q), fun x o q m => ?_, s.dis, s.re.mono (Ex.refl H0) (keep fe (by omega)),
    k1.append ⟨fun x => g' x + one p x, f4, (Rk.nd_iff hk).mpr ⟨p, dx, vs', g', rfl, by rw [if_neg (by decide)]; exact ⟨upd_same, fun _ => rfl⟩, trivial, k2⟩, k3, fun _ => rfl⟩, fun x => ?_, fun x hx => ?_, fun x hx => ?_⟩
  · subst e; rw [h0p] at q; cases q
  · subst e; rw [hFp] at q; cases q
  · by_cases e : x = p
    · subst e; rw [upd_same] at q; cases q; exact absurd trivial m
    · rw [upd_ne e] at q; exact s.imm x o q m
  · have := s.uniq x; have := bound x; omega
  · exact s.s0 x (by have := bound x; omega)
  · exact s.sF x (by have := bound x; omega)
end

/-! ### the methods -/
structure MopOk (g : Kd → D → List Mv → Option (D × Mv)) (r : V → List V → Hp → VK → Prop) : Prop where
  ok : ∀ {H0 HF H : Hp} {σ : L2.St} {env : Env} {ts : List Tm} {fe ft : Fp} {k : Kd} {xs : List D} {u : V} {vs : List Mv} {us : List V} {d' : D} {v : Mv} {Q : VK}, k.isZ = false → us.length = vs.length → S H0 HF H σ env (zipT vs us ++ (k, .nd .lst xs, u) :: ts) fe ft → g k (.nd .lst xs) vs = some (d', v) →
    (∀ H' w ft', S H0 HF H' σ env ((v.1, v.2, w) :: (k, d', u) :: ts) fe ft' → Q w H') → r u us H Q
def retN (d : D) : Option (D × Mv) := some (d, (.z, .non))
theorem refOf {H0 HF H : Hp} {σ : L2.St} {env : Env} {ts cs : List Tm} {fe ft : Fp} {k : Kd} {s : Sh} {xs : List D} {u : V} (h : S H0 HF H σ env (cs ++ (k, .nd s xs, u) :: ts) fe ft) : ∃ p, u = .ref p := by
  obtain ⟨g1, g2, _, ⟨f1, f2, q, _⟩, _⟩ := h.tmp.split
  obtain ⟨a, dx, vs, g, e, _⟩ := Rk.kids h.sub q
  exact ⟨a, e⟩
def gApp : Kd → D → List Mv → Option (D × Mv)
  | .all k, .nd .lst xs, [v] => if (Kd.beq v.1 k && decide (xs.length < 100000)) = true then retN (.nd .lst (xs ++ [v.2])) else none
  | _, _, _ => none
theorem lt_line {n : Nat} (h : n < 100000) : n < sizeLine := Nat.lt_of_lt_of_le h (by decide)
theorem mop_app : MopOk gApp rAppend := ⟨fun {H0 HF H σ env ts fe ft k xs u vs us d' v Q} hk hl s hg q => by
  unfold gApp at hg
  split at hg
  · rename_i kk xs' w hh
    cases hh
    have hc : (Kd.beq w.1 kk && decide (xs.length < 100000)) = true := by
      cases e : (Kd.beq w.1 kk && decide (xs.length < 100000)) with
      | true => rfl
      | false => rw [e, if_neg Bool.false_ne_true] at hg; cases hg
    rw [if_pos hc] at hg
    simp only [Bool.and_eq_true, decide_eq_true_eq] at hc
    cases hg
    obtain ⟨wk, wd⟩ := w
    have ek := Kd.beq_eq hc.1
    dsimp only at ek
    subst ek
    match us, hl with
    | [y], _ =>
      obtain ⟨p, rfl⟩ := refOf s
      obtain ⟨ws, h1, h2⟩ := S.lstAt (cs := [(wk, wd, y)]) s hk
      obtain ⟨ft', s'⟩ := S.setT (cs := [(wk, wd, y)]) s hk h1 [] (xs ++ [wd]) (ws ++ [y]) fun gc g qc qg => by
        obtain ⟨f1, f2, r1, r2, r3⟩ := qc
        exact ⟨fun _ => 0, _, fun _ => rfl, RkL.snoc qg r1, fun x => by have := r3 x; have := r2 x; dsimp only; omega⟩
      exact ⟨p, ws, y, rfl, rfl, h1, by rw [h2]; exact lt_line hc.2, q _ _ _ (s'.pushZ (d := .non) (v := .non) rfl)⟩
  · cases hg⟩
def gExt : Kd → D → List Mv → Option (D × Mv)
  | .all .z, .nd .lst xs, [(.z, .nd .lst ys)] => if xs.length + ys.length ≤ 100000 then retN (.nd .lst (xs ++ ys)) else none
  | _, _, _ => none
theorem mop_ext : MopOk gExt rExtend := ⟨fun {H0 HF H σ env ts fe ft k xs u vs us d' v Q} hk hl s hg q => by
  unfold gExt at hg
  split at hg
  · rename_i xs' ys hh
    cases hh
    split at hg
    · rename_i hc
      cases hg
      match us, hl with
      | [y], _ =>
        obtain ⟨p, rfl⟩ := refOf s
        obtain ⟨f1, f2, r1, _⟩ := id s.tmp
        obtain ⟨b, dx, ws', rfl, hb, _, hr⟩ := (Rk.z_iff.mp r1).1
        obtain ⟨ws, h1, h2⟩ := S.lstAt (cs := [(.z, .nd .lst ys, .ref b)]) s hk
        obtain ⟨ft', s'⟩ := S.setT (cs := [(.z, .nd .lst ys, .ref b)]) s hk h1 [] (xs ++ ys) (ws ++ ws') fun gc g qc qg => by
          obtain ⟨a1, a2⟩ := RkL.toT.mp qg
          obtain ⟨b1, b2⟩ := RkL.toT.mp (RkL.z (H := H) hr)
          exact ⟨fun _ => 0, _, fun _ => rfl, RkL.toT.mpr ⟨by simp [a1, b1], by rw [cT_append a1]; exact a2.append b2⟩, fun x => by dsimp only; omega⟩
        exact ⟨p, b, ws, ws', rfl, rfl, h1, s.sub _ _ hb, by rw [h2, RfL.length hr]; exact le_line hc, q _ _ _ (s'.pushZ (d := .non) (v := .non) rfl)⟩
    · cases hg
  · cases hg⟩
/-- insert(i, d), 0 ≤ i -/
def gIns : Kd → D → List Mv → Option (D × Mv)
  | .all k, .nd .lst xs, [(_, .int i), v] => if (Kd.beq v.1 k && decide (xs.length < 100000) && decide (0 ≤ i) && decide (i < 100000)) = true then retN (.nd .lst (xs.take i.toNat ++ [v.2] ++ xs.drop i.toNat)) else none
  | _, _, _ => none
theorem cT_take {k : Kd} : ∀ {xs : List D} {vs : List V} (n : Nat), vs.length = xs.length → cT k (xs.take n) (vs.take n) ++ cT k (xs.drop n) (vs.drop n) = cT k xs vs := fun {xs vs} n h => by
  rw [← cT_append (by simp [h]), List.take_append_drop, List.take_append_drop]
theorem mop_ins : MopOk gIns (fun x vs H Q => ∃ (l : Addr) (xs : List V) (i : Int) (y : V), x = .ref l ∧ vs = [.int i, y] ∧ H l = some (.lst xs) ∧ xs.length < sizeLine ∧ 0 ≤ i ∧ i < 2 ^ 63 ∧
    Q .non (upd H l (.lst (xs.take i.toNat ++ [y] ++ xs.drop i.toNat)))) := ⟨fun {H0 HF H σ env ts fe ft k xs u vs us d' v Q} hk hl s hg q => by
  unfold gIns at hg
  split at hg
  · rename_i kk xs' k1 i w hh
    cases hh
    have hc : (Kd.beq w.1 kk && decide (xs.length < 100000) && decide (0 ≤ i) && decide (i < 100000)) = true := by
      cases e : (Kd.beq w.1 kk && decide (xs.length < 100000) && decide (0 ≤ i) && decide (i < 100000)) with
      | true => rfl
      | false => rw [e, if_neg Bool.false_ne_true] at hg; cases hg
    rw [if_pos hc] at hg
    simp only [Bool.and_eq_true, decide_eq_true_eq] at hc
    cases hg
    obtain ⟨wk, wd⟩ := w
    have ek := Kd.beq_eq hc.1.1.1
    dsimp only at ek
    subst ek
    match us, hl with
    | [z, y], _ =>
      obtain ⟨p, rfl⟩ := refOf s
      have ez : z = .int i := by
        obtain ⟨f1, f2, r1, _⟩ := id s.tmp
        exact r1.rf s.sub
      subst ez
      obtain ⟨ws, h1, h2⟩ := S.lstAt (cs := [(k1, .int i, .int i), (wk, wd, y)]) s hk
      obtain ⟨ft', s'⟩ := S.setT (cs := [(k1, .int i, .int i), (wk, wd, y)]) s hk h1 [] (xs.take i.toNat ++ [wd] ++ xs.drop i.toNat) (ws.take i.toNat ++ [y] ++ ws.drop i.toNat) fun gc g qc qg => by
        obtain ⟨f1, f2, r1, ⟨f3, f4, r4, r5, r6⟩, r3⟩ := qc
        obtain ⟨a1, a2⟩ := RkL.toT.mp qg
        refine ⟨fun _ => 0, fun x => f3 x + g x, fun _ => rfl, RkL.toT.mpr ⟨by simp [a1], ?_⟩, fun x => by have := r3 x; have := r6 x; dsimp only; omega⟩
        rw [cT_append (by simp [a1]), cT_append (by simp [a1])]
        rw [← cT_take i.toNat a1] at a2
        refine RkT.perm ?_ (show RkT H0 H ((wk, wd, y) :: (cT wk (xs.take i.toNat) (ws.take i.toNat) ++ cT wk (xs.drop i.toNat) (ws.drop i.toNat))) _ from ⟨f3, g, r4, a2, fun _ => rfl⟩)
        rw [List.append_assoc]
        exact List.perm_middle.symm
      exact ⟨p, ws, i, y, rfl, rfl, h1, by rw [h2]; exact lt_line hc.1.1.2, hc.1.2, Int.lt_of_lt_of_le hc.2 (by decide), q _ _ _ (s'.pushZ (d := .non) (v := .non) rfl)⟩
  · cases hg⟩
/-- pop() -/
def gPop : Kd → D → List Mv → Option (D × Mv)
  | .all k, .nd .lst xs, [] => match xs[xs.length - 1]? with
    | some d => some (.nd .lst xs.dropLast, (k, d))
    | none => none
  | _, _, _ => none
theorem dropLast_erase {α : Type} : ∀ (l : List α), l.dropLast = l.eraseIdx (l.length - 1)
  | [] => rfl
  | [a] => rfl
  | a :: b :: l => by
    have := dropLast_erase (b :: l)
    simp only [List.dropLast_cons_cons, List.length_cons, Nat.add_sub_cancel, List.eraseIdx_cons_succ] at this ⊢
    rw [this]
theorem mop_erase {k : Kd} {H0 H : Hp} {xs : List D} {ws : List V} {j : Nat} {d : D} {g : Fp} (hj : xs[j]? = some d) (qg : RkL H0 H xs (Kd.kid (.all k)) ws g) : ∃ w, ws[j]? = some w ∧ ∃ gr g', RkT H0 H [(k, d, w)] gr ∧ RkL H0 H (xs.eraseIdx j) (Kd.kid (.all k)) (ws.eraseIdx j) g' ∧ ∀ x, gr x + g' x ≤ g x := by
  obtain ⟨a1, a2⟩ := RkL.toT.mp (show RkL H0 H xs (fun _ => k) ws g from qg)
  have hlt := (List.getElem?_eq_some_iff.mp hj).1
  have hw : ws[j]? = some (ws[j]'(by omega)) := by simp
  refine ⟨_, hw, ?_⟩
  obtain ⟨f1, f2, r1, r2, r3⟩ := a2.perm (cT_get hj hw a1)
  exact ⟨f1, f2, ⟨f1, fun _ => 0, r1, fun _ => rfl, fun x => by dsimp only; omega⟩, RkL.toT.mpr ⟨by rw [List.length_eraseIdx_of_lt hlt, List.length_eraseIdx_of_lt (by omega), a1], r2⟩, fun x => by rw [r3]; exact Nat.le_refl _⟩
theorem mop_pop : MopOk gPop rPop := ⟨fun {H0 HF H σ env ts fe ft k xs u vs us d' v Q} hk hl s hg q => by
  unfold gPop at hg
  split at hg
  · rename_i kk xs' hh
    cases hh
    cases hd : xs[xs.length - 1]? with
    | none => rw [hd] at hg; cases hg
    | some d =>
      rw [hd] at hg
      cases hg
      have eu : us = [] := List.eq_nil_of_length_eq_zero hl
      subst eu
      obtain ⟨p, rfl⟩ := refOf (cs := []) s
      obtain ⟨ws, h1, h2⟩ := S.lstAt (cs := []) s hk
      obtain ⟨g0, kids⟩ := S.lstKids (cs := []) s hk h1
      obtain ⟨w, hw, _⟩ := mop_erase hd kids
      obtain ⟨ft', s'⟩ := S.setT (cs := []) s hk h1 [(kk, d, w)] xs.dropLast ws.dropLast fun gc g qc qg => by
        obtain ⟨w', hw', gr, g', a1, a2, a3⟩ := mop_erase hd qg
        rw [hw] at hw'
        cases hw'
        refine ⟨gr, g', a1, ?_, fun x => by have := a3 x; omega⟩
        rw [dropLast_erase, dropLast_erase, h2]
        exact a2
      exact ⟨p, ws, w, rfl, rfl, h1, by rw [h2]; exact hw, q _ _ _ s'⟩
  · cases hg⟩
/-- pop(i) -/
def gPopAt : Kd → D → List Mv → Option (D × Mv)
  | .all k, .nd .lst xs, [(_, .int i)] => match ixN xs.length i with
    | some j => match xs[j]? with
      | some d => if xs.length ≤ 100000 then some (.nd .lst (xs.eraseIdx j), (k, d)) else none
      | none => none
    | none => none
  | _, _, _ => none
theorem mop_popAt : MopOk gPopAt rPopAt := ⟨fun {H0 HF H σ env ts fe ft k xs u vs us d' v Q} hk hl s hg q => by
  unfold gPopAt at hg
  split at hg
  · rename_i kk xs' k1 i hh
    cases hh
    cases hj : ixN xs.length i with
    | none => rw [hj] at hg; cases hg
    | some j =>
    rw [hj] at hg
    dsimp only at hg
    cases hd : xs[j]? with
    | none => rw [hd] at hg; cases hg
    | some d =>
      rw [hd] at hg
      dsimp only at hg
      split at hg
      · rename_i hlen
        cases hg
        match us, hl with
        | [z], _ =>
          obtain ⟨p, rfl⟩ := refOf s
          have ez : z = .int i := by
            obtain ⟨f1, f2, r1, _⟩ := id s.tmp
            exact r1.rf s.sub
          subst ez
          obtain ⟨ws, h1, h2⟩ := S.lstAt (cs := [(k1, .int i, .int i)]) s hk
          obtain ⟨g0, kids⟩ := S.lstKids (cs := [(k1, .int i, .int i)]) s hk h1
          obtain ⟨w, hw, _⟩ := mop_erase hd kids
          obtain ⟨ft', s'⟩ := S.setT (cs := [(k1, .int i, .int i)]) s hk h1 [(kk, d, w)] (xs.eraseIdx j) (ws.eraseIdx j) fun gc g qc qg => by
            obtain ⟨w', hw', gr, g', a1, a2, a3⟩ := mop_erase hd qg
            rw [hw] at hw'
            cases hw'
            exact ⟨gr, g', a1, a2, fun x => by have := a3 x; omega⟩
          obtain ⟨c1, c2, c3, c4⟩ := ixN_seq hj
          exact ⟨p, ws, i, j, w, rfl, rfl, h1, by have : (xs.length : Int) ≤ 100000 := by omega
                                                  have : (-(2 ^ 63) : Int) ≤ -100000 := by decide
                                                  omega, by have : (xs.length : Int) ≤ 100000 := by omega
                                                            have : (100000 : Int) ≤ 2 ^ 63 := by decide
                                                            omega, by rw [h2]; exact c1, hw, q _ _ _ s'⟩
      · cases hg
  · cases hg⟩
def gRev : Kd → D → List Mv → Option (D × Mv)
  | .all k, .nd .lst xs, [] => retN (.nd .lst xs.reverse)
  | _, _, _ => none
theorem mop_rev : MopOk gRev rReverse := ⟨fun {H0 HF H σ env ts fe ft k xs u vs us d' v Q} hk hl s hg q => by
  unfold gRev at hg
  split at hg
  · rename_i kk xs' hh
    cases hh
    cases hg
    have eu : us = [] := List.eq_nil_of_length_eq_zero hl
    subst eu
    obtain ⟨p, rfl⟩ := refOf (cs := []) s
    obtain ⟨ws, h1, h2⟩ := S.lstAt (cs := []) s hk
    obtain ⟨ft', s'⟩ := S.setT (cs := []) s hk h1 [] xs.reverse ws.reverse fun gc g qc qg => by
      obtain ⟨a1, a2⟩ := RkL.toT.mp qg
      exact ⟨fun _ => 0, g, fun _ => rfl, RkL.toT.mpr ⟨by simp [a1], a2.perm (cT_reverse a1).symm⟩, fun x => by dsimp only; omega⟩
    exact ⟨p, ws, rfl, rfl, h1, q _ _ _ (s'.pushZ (d := .non) (v := .non) rfl)⟩
  · cases hg⟩
/-- a list of ints -/
def D.ints : List D → Option (List Int)
  | [] => some []
  | .int i :: ds => (D.ints ds).map fun r => i :: r
  | _ => none
theorem ints_eq : ∀ {ds : List D} {ns : List Int}, D.ints ds = some ns → ds = ns.map D.int
  | [], _, h => by cases h; rfl
  | .int i :: ds, ns, h => by
    simp only [D.ints, Option.map_eq_some_iff] at h
    obtain ⟨r, h1, rfl⟩ := h
    rw [List.map_cons, ints_eq h1]
  | .non :: _, _, h => by cases h
  | .bl _ :: _, _, h => by cases h
  | .str _ :: _, _, h => by cases h
  | .nd _ _ :: _, _, h => by cases h
theorem ints_map : ∀ (ns : List Int), D.ints (ns.map D.int) = some ns
  | [] => rfl
  | n :: ns => by simp [D.ints, ints_map ns]
theorem RfL.ints {H : Hp} : ∀ {ns : List Int} {vs : List V}, RfL H (ns.map D.int) vs → vs = ns.map V.int
  | [], _, h => h
  | n :: ns, vs, h => by
    obtain ⟨u, us, rfl, h2, h3⟩ := h
    have e : u = .int n := h2
    rw [e, RfL.ints h3]; rfl
def firstAt (k : Int) (ns : List Int) : Option Nat := ns.findIdx? fun n => n == k
theorem firstAt_spec {k : Int} {ns : List Int} {j : Nat} (h : firstAt k ns = some j) : ns[j]? = some k ∧ ∀ m : Nat, m < j → ns[m]? ≠ some k := by
  unfold firstAt at h
  rw [List.findIdx?_eq_some_iff_getElem] at h
  obtain ⟨hl, h1, h2⟩ := h
  refine ⟨by simp only [beq_iff_eq] at h1; simp [hl, h1], fun m hm e => ?_⟩
  have := h2 m hm
  simp only [beq_iff_eq] at this
  have q := List.getElem?_eq_some_iff.mp e
  exact this q.2
/-- remove(k), of ints -/
def gRem : Kd → D → List Mv → Option (D × Mv)
  | .all .z, .nd .lst xs, [(_, .int i)] => match D.ints xs with
    | some ns => match firstAt i ns with
      | some j => retN (.nd .lst (xs.eraseIdx j))
      | none => none
    | none => none
  | _, _, _ => none
theorem eraseIdx_map {α β : Type} (f : α → β) : ∀ (l : List α) (j : Nat), (l.map f).eraseIdx j = (l.eraseIdx j).map f
  | [], j => by simp
  | a :: r, 0 => by simp
  | a :: r, j + 1 => by simp [eraseIdx_map f r j]
theorem mop_rem : MopOk gRem rRemI := ⟨fun {H0 HF H σ env ts fe ft k xs u vs us d' v Q} hk hl s hg q => by
  unfold gRem at hg
  split at hg
  · rename_i xs' k1 i hh
    cases hh
    cases hn : D.ints xs with
    | none => rw [hn] at hg; cases hg
    | some ns =>
    rw [hn] at hg
    dsimp only at hg
    cases hj : firstAt i ns with
    | none => rw [hj] at hg; cases hg
    | some j =>
    rw [hj] at hg
    cases hg
    have ex := ints_eq hn
    subst ex
    match us, hl with
    | [z], _ =>
      obtain ⟨p, rfl⟩ := refOf s
      have ez : z = .int i := by
        obtain ⟨f1, f2, r1, _⟩ := id s.tmp
        exact r1.rf s.sub
      subst ez
      obtain ⟨ws, h1, h2⟩ := S.lstAt (cs := [(k1, .int i, .int i)]) s hk
      obtain ⟨g0, kids⟩ := S.lstKids (cs := [(k1, .int i, .int i)]) s hk h1
      have ew : ws = ns.map V.int := RfL.ints (RkL.rf s.sub kids)
      obtain ⟨b1, b2⟩ := firstAt_spec hj
      have hd : (ns.map D.int)[j]? = some (.int i) := by rw [List.getElem?_map, b1]; rfl
      obtain ⟨ft', s'⟩ := S.setT (cs := [(k1, .int i, .int i)]) s hk h1 [] ((ns.map D.int).eraseIdx j) (ws.eraseIdx j) fun gc g qc qg => by
        obtain ⟨w', hw', gr, g', a1, a2, a3⟩ := mop_erase hd qg
        exact ⟨fun _ => 0, g', fun _ => rfl, a2, fun x => by have := a3 x; dsimp only; omega⟩
      refine ⟨p, ns, i, j, rfl, rfl, by rw [h1, ew], b1, b2, ?_⟩
      rw [ew, eraseIdx_map] at s'
      exact q _ _ _ (s'.pushZ (d := .non) (v := .non) rfl)
  · cases hg⟩
end Vt

set_option Elab.async false
set_option linter.all false
set_option autoImplicit false
set_option maxRecDepth 100000
set_option maxHeartbeats 1000000
/-! Vt15: methods of owned lists, where they stand in a slot or within it. -/
namespace Vt
open PySem L2

/-! ### a node within a node -/
def subAt : D → Kd → List Nat → Option (Kd × D)
  | d, k, [] => some (k, d)
  | .nd _ xs, k, n :: p => if k.isZ = true then none else (xs[n]?).bind fun d => subAt d (k.kid n) p
  | _, _, _ => none
def updD : D → List Nat → D → D
  | _, [], d' => d'
  | .nd s xs, n :: p, d' => match xs[n]? with
    | some d => .nd s (xs.set n (updD d p d'))
    | none => .nd s xs
  | d, _, _ => d
def kids : HO → List V
  | .lst xs => xs
  | .tup xs => xs
  | .dK kvs => kvs.map (·.2)
  | .dT kvs => kvs.map (·.2)
  | .ins _ _ fs => fs.map (·.2)
  | .frz _ (.lst xs) => xs
  | _ => []
def At (H : Hp) : V → List Nat → V → Prop
  | w, [], u => u = w
  | w, n :: p, u => ∃ a o c, w = .ref a ∧ H a = some o ∧ (kids o)[n]? = some c ∧ At H c p u
theorem At.mono {H H' : Hp} (e : Ex H H') : ∀ {p : List Nat} {w u : V}, At H w p u → At H' w p u
  | [], _, _, h => h
  | n :: p, w, u, h => by
    obtain ⟨a, o, c, h1, h2, h3, h4⟩ := h
    exact ⟨a, o, c, h1, e _ _ h2, h3, At.mono e h4⟩
theorem At.inj {H : Hp} : ∀ {p : List Nat} {w u u' : V}, At H w p u → At H w p u' → u = u'
  | [], _, _, _, h, h' => by rw [show _ = _ from h, show _ = _ from h']
  | n :: p, w, u, u', h, h' => by
    obtain ⟨a, o, c, rfl, h2, h3, h4⟩ := h
    obtain ⟨a', o', c', e, h2', h3', h4'⟩ := h'
    cases e
    rw [h2] at h2'
    cases h2'
    rw [h3] at h3'
    cases h3'
    exact At.inj h4 h4'
theorem zip_snd {α β : Type} : ∀ {l : List α} {m : List β}, l.length = m.length → (l.zip m).map (·.2) = m
  | [], [], _ => rfl
  | a :: l, b :: m, h => by simp [zip_snd (show l.length = m.length by simpa using h)]
  | [], _ :: _, h => by cases h
  | _ :: _, [], h => by cases h
theorem Sh.kids {s : Sh} {H : Hp} {a dx : Addr} {vs : List V} {n : Nat} (h : s.std H a dx vs) (ok : s.ok H a dx n) (hl : vs.length = n) : ∃ o, H a = some o ∧ Vt.kids o = vs := by
  cases s with
  | lst => exact ⟨_, h, rfl⟩
  | tup => exact ⟨_, h, rfl⟩
  | scr => obtain ⟨o, h⟩ := h; exact ⟨_, h, rfl⟩
  | dK ks => exact ⟨_, h, zip_snd (by rw [ok.1, hl])⟩
  | dT ks => exact ⟨_, h, zip_snd (by rw [ok.1, hl])⟩
  | obj C ns => exact ⟨_, h, zip_snd (by rw [ok.2.1, hl])⟩
theorem RkL.focus {H0 H : Hp} : ∀ {xs : List D} {kf : Nat → Kd} {vs : List V} {f : Fp} {n : Nat} {d : D}, RkL H0 H xs kf vs f → xs[n]? = some d → ∃ (v : V) (f1 f2 : Fp), vs[n]? = some v ∧ Rk H0 H d (kf n) v f1 ∧ (∀ x, f x = f1 x + f2 x) ∧
    ∀ {H0' H' : Hp} {d' : D} {f1' : Fp}, Ex H0 H0' → (∀ x o, 1 ≤ f2 x → H x = some o → H' x = some o) → Rk H0' H' d' (kf n) v f1' → RkL H0' H' (xs.set n d') kf vs (fun x => f1' x + f2 x)
  | [], _, _, _, n, d, _, h => by simp at h
  | d :: ds, kf, vs, f, 0, _, h, e => by
    obtain ⟨u, us, f1, f2, rfl, r1, r2, r3⟩ := h
    simp at e; subst e
    exact ⟨u, f1, f2, rfl, r1, r3, fun {H0' H' d' f1'} e0 k r => ⟨u, us, f1', f2, rfl, r, RkL.mono e0 k r2, fun _ => rfl⟩⟩
  | d :: ds, kf, vs, f, n + 1, _, h, e => by
    obtain ⟨u, us, f1, f2, rfl, r1, r2, r3⟩ := h
    obtain ⟨v, g1, g2, a, b, c, w⟩ := RkL.focus (n := n) r2 (by simpa using e)
    refine ⟨v, g1, fun x => f1 x + g2 x, by simpa using a, b, fun x => by have := r3 x; have := c x; dsimp only; omega, fun {H0' H' d' f1'} e0 k r => ?_⟩
    exact ⟨u, us, f1, _, rfl, r1.mono e0 (fun x o hx q => k x o (by dsimp only; omega) q), w e0 (fun x o hx q => k x o (by dsimp only; omega) q) r, fun x => by dsimp only; omega⟩
theorem Rk.focus {H0 H : Hp} (eH : Ex H0 H) : ∀ {p : List Nat} {d : D} {k : Kd} {w : V} {f : Fp} {k1 : Kd} {d1 : D}, Rk H0 H d k w f → subAt d k p = some (k1, d1) → ∃ (u : V) (f1 f2 : Fp), At H w p u ∧ Rk H0 H d1 k1 u f1 ∧ (∀ x, f x = f1 x + f2 x) ∧
    ∀ {H0' H' : Hp} {d1' : D} {f1' : Fp}, Ex H0 H0' → (∀ x o, 1 ≤ f2 x → H x = some o → H' x = some o) → Rk H0' H' d1' k1 u f1' → Rk H0' H' (updD d p d1') k w (fun x => f1' x + f2 x)
  | [], d, k, w, f, k1, d1, h, e => by
    have e : some (k, d) = some (k1, d1) := by cases d <;> exact e
    cases e
    refine ⟨w, f, fun _ => 0, rfl, h, fun x => by dsimp only; omega, fun {H0' H' d1' f1'} e0 kk r => ?_⟩
    have : updD d [] d1' = d1' := by cases d <;> rfl
    rw [this]
    exact r.ext fun x => by dsimp only; omega
  | n :: p, .nd s xs, k, w, f, k1, d1, h, e => by
    unfold subAt at e
    split at e
    · cases e
    · rename_i hk
      have hk : k.isZ = false := by simpa using hk
      cases hx : xs[n]? with
      | none => rw [hx] at e; cases e
      | some d =>
        rw [hx, Option.bind_some] at e
        obtain ⟨a, dx, vs, g, rfl, h2, h3, h4⟩ := (Rk.nd_iff hk).mp h
        obtain ⟨v, f1, f2, q1, q2, q3, q4⟩ := RkL.focus h4 hx
        obtain ⟨u, g1, g2, p1, p2, p3, p4⟩ := Rk.focus eH q2 e
        have hstd : s.std H a dx vs := by
          split at h2
          · exact Sh.std_mono eH h2.1
          · rename_i ht; exact Sh.std_of (by simpa using ht) h2.1
        obtain ⟨o, ho, hok⟩ := Sh.kids hstd (Sh.ok_mono eH h3) (RkL.length h4)
        have upx : ∀ d1', updD (.nd s xs) (n :: p) d1' = .nd s (xs.set n (updD d p d1')) := fun d1' => by
          show (match xs[n]? with
            | some d => D.nd s (xs.set n (updD d p d1'))
            | none => .nd s xs) = _
          rw [hx]
        split at h2
        · rename_i ht
          refine ⟨u, g1, fun x => g2 x + f2 x, ⟨a, o, v, rfl, ho, by rw [hok]; exact q1, p1⟩, p2, fun x => by have := h2.2 x; have := q3 x; have := p3 x; dsimp only; omega, fun {H0' H' d1' f1'} e0 kk r => ?_⟩
          rw [upx]
          refine (Rk.nd_iff hk).mpr ⟨a, dx, vs, fun x => f1' x + g2 x + f2 x, rfl, by rw [if_pos ht]; exact ⟨Sh.std_mono e0 h2.1, fun x => by dsimp only; omega⟩, by rw [List.length_set]; exact Sh.ok_mono e0 h3, ?_⟩
          exact q4 e0 (fun x o hx q => kk x o (by dsimp only; omega) q) (p4 e0 (fun x o hx q => kk x o (by dsimp only; omega) q) r)
        · rename_i ht
          refine ⟨u, g1, fun x => g2 x + f2 x + one a x, ⟨a, o, v, rfl, ho, by rw [hok]; exact q1, p1⟩, p2, fun x => by have := h2.2 x; have := q3 x; have := p3 x; dsimp only; omega, fun {H0' H' d1' f1'} e0 kk r => ?_⟩
          rw [upx]
          refine (Rk.nd_iff hk).mpr ⟨a, dx, vs, fun x => f1' x + g2 x + f2 x, rfl, by rw [if_neg ht]; exact ⟨kk a _ (by simp [one]) h2.1, fun x => by dsimp only; omega⟩, by rw [List.length_set]; exact Sh.ok_mono e0 h3, ?_⟩
          exact q4 e0 (fun x o hx q => kk x o (by dsimp only; omega) q) (p4 e0 (fun x o hx q => kk x o (by dsimp only; omega) q) r)
  | _ :: _, .non, _, _, _, _, _, _, e => by cases e
  | _ :: _, .bl _, _, _, _, _, _, _, e => by cases e
  | _ :: _, .int _, _, _, _, _, _, _, e => by cases e
  | _ :: _, .str _, _, _, _, _, _, _, e => by cases e

section
variable {H0 HF H H0' H' : Hp} {σ : L2.St} {env : Env} {ts : List Tm} {fe ft : Fp} {E : XK}
/-- the state with a node within a temporary in the temporary's place -/
theorem S.focus {k : Kd} {d : D} {w : V} {p : List Nat} {k1 : Kd} {d1 : D} (s : S H0 HF H σ env ((k, d, w) :: ts) fe ft) (e : subAt d k p = some (k1, d1)) :
    ∃ HF' u ft', At H w p u ∧ S H0 HF' H σ env ((k1, d1, u) :: ts) fe ft' ∧
      ∀ {H0' H' : Hp} {σ' : L2.St} {env' : Env} {rs ts' : List Tm} {d1' : D} {fe' ft' : Fp}, Ex H0 H0' → S H0' HF' H' σ' env' (rs ++ (k1, d1', u) :: ts') fe' ft' → ∃ ft'', S H0' HF H' σ' env' (rs ++ (k, updD d p d1', w) :: ts') fe' ft'' := by
  obtain ⟨f, f4, qn, q4, e1⟩ := s.tmp
  obtain ⟨u, f1, f2, hat, r1, e2, plug⟩ := Rk.focus s.sub qn e
  let HF' : Hp := fun x => if 1 ≤ f2 x then H x else HF x
  have n1 : ∀ x, 1 ≤ f2 x → HF' x = H x := fun x hx => if_pos hx
  have n2 : ∀ x, f2 x = 0 → HF' x = HF x := fun x hx => if_neg (by omega)
  have cA : ∀ x, fe x + f1 x + f2 x + f4 x ≤ 1 := fun x => by have := s.uniq x; have := e1 x; have := e2 x; omega
  have cF : ∀ x o, HF x = some o → fe x + f1 x + f2 x + f4 x = 0 := fun x o q => by
    by_cases z : 1 ≤ fe x + ft x
    · rw [s.sF x z] at q; cases q
    · have := e1 x; have := e2 x; omega
  have eF : Ex HF HF' := fun x o q => by rw [n2 x (by have := cF x o q; omega)]; exact q
  refine ⟨HF', u, fun x => f1 x + f4 x, hat, ⟨s.sub, fun x o q => ?_, s.imm, fun x o q => ?_, s.re, ⟨f1, f4, r1, q4, fun _ => rfl⟩, fun x => by have := cA x; omega, fun x hx => s.s0 x (by have := e1 x; have := e2 x; omega), fun x hx => ?_⟩, ?_⟩
  · by_cases z : 1 ≤ f2 x
    · rw [n1 x z] at q; exact q
    · rw [n2 x (by omega)] at q; exact s.frm x o q
  · by_cases z : 1 ≤ f2 x
    · exact s.s0 x (by have := e1 x; have := e2 x; omega)
    · rw [n2 x (by omega)] at q; exact s.dis x o q
  · rw [n2 x (by have := cA x; omega)]
    exact s.sF x (by have := e1 x; have := e2 x; omega)
  · intro H0' H' σ' env' rs ts' d1' fe' ft' e0 s'
    obtain ⟨g1, g2, qr, ⟨g3, g4, qf, qt, e4⟩, e3⟩ := s'.tmp.split
    have keep : ∀ x o, 1 ≤ f2 x → H x = some o → H' x = some o := fun x o hx q => s'.frm x o (by rw [n1 x hx]; exact q)
    have sep : ∀ x, 1 ≤ f2 x → fe' x + ft' x = 0 ∧ H0' x = none := fun x hx => by
      obtain ⟨o, ho, _⟩ : ∃ o, H x = some o ∧ Mut (some o) := s.cell (by have := e1 x; have := e2 x; omega)
      have hF : HF' x = some o := by rw [n1 x hx]; exact ho
      refine ⟨?_, s'.dis x o hF⟩
      by_cases z : 1 ≤ fe' x + ft' x
      · have := s'.sF x z
        rw [hF] at this; cases this
      · omega
    refine ⟨fun x => g1 x + (g3 x + f2 x + g4 x), s'.sub, eF.trans s'.frm, s'.imm, fun x o q => s'.dis x o (eF x o q), s'.re, qr.append ⟨fun x => g3 x + f2 x, g4, plug e0 keep qf, qt, fun _ => rfl⟩, fun x => ?_, fun x hx => ?_, fun x hx => ?_⟩
    · have := s'.uniq x; have := e3 x; have := e4 x
      by_cases z : 1 ≤ f2 x
      · have := (sep x z).1; have := cA x; omega
      · omega
    · by_cases z : 1 ≤ f2 x
      · exact (sep x z).2
      · exact s'.s0 x (by have := e3 x; have := e4 x; omega)
    · by_cases z : 1 ≤ f2 x
      · exact s.sF x (by have := e1 x; have := e2 x; omega)
      · have := s'.sF x (by have := e3 x; have := e4 x; omega)
        rwa [n2 x (by omega)] at this

/-! ### a method of the list in slot i -/
def isLst : D → Bool
  | .nd .lst _ => true
  | _ => false
def mutR (i : Nat) (g : Kd → D → List Mv → Option (D × Mv)) (ms : MX (List Mv)) : MX Mv := fun env => match env[i]? with
  | some (.val _ (.nd .lst _)) => match ms env with
    | .ok vs e => match e[i]? with
      | some (.val k (.nd .lst xs)) => if k.isZ = true then .bad else match g k (.nd .lst xs) vs with
        | some (d', v) => .ok v (e.put i (.val k d'))
        | none => .bad
      | _ => .bad
    | .exc C x e => .exc C x e
    | .bad => .bad
  | _ => .bad
theorem Rf.tyL {K : PySem.W.Frag} {xs : List D} {u : V} (h : Rf H (.nd .lst xs) u) : tyV K "list" u H := by
  obtain ⟨a, dx, vs, rfl, h2, _⟩ := h
  exact .inl ⟨rfl, vs, .inl (.inl h2)⟩
theorem sh_mutR {K : PySem.W.Frag} {i : Nat} {g : Kd → D → List Mv → Option (D × Mv)} {r : V → List V → Hp → VK → Prop} {ms : MX (List Mv)} (h : MopOk g r) : ShM E (tBM K "list" r (tVar i) (tMA E ms)) (mutR i g ms) := by
  intro σ H Q z
  obtain ⟨H0, HF, env, ts, fe, ft, s, k⟩ := tM_in z
  unfold mutR at k
  split at k
  · rename_i k0 xs0 he0
    obtain ⟨u, f1, hu, r0, _⟩ := s.re.get he0
    refine ⟨u, hu, (r0.rf s.sub).tyL, tMA_out s ?_⟩
    cases hm : ms env with
    | exc C x e => rw [hm] at k; exact k
    | bad => rw [hm] at k; exact k
    | ok vs e =>
      rw [hm] at k
      dsimp only at k
      intro H1 H01 us fe1 ft1 e0 hl s1
      split at k
      · rename_i kd xs he
        split at k
        · exact k.elim
        · rename_i hkz
          have hkz : kd.isZ = false := by simpa using hkz
          cases hg : g kd (.nd .lst xs) vs with
          | none => rw [hg] at k; exact k.elim
          | some dv =>
            obtain ⟨d', v⟩ := dv
            rw [hg] at k
            obtain ⟨fe2, ft2, u', hu', s2⟩ := s1.takeE he
            rw [hu] at hu'
            cases hu'
            have hil : i < e.length := (List.getElem?_eq_some_iff.mp he).1
            refine h.ok hkz hl (s2.perm List.perm_middle.symm) hg fun H2 w ft3 s3 => ?_
            obtain ⟨fe4, ft4, s4⟩ := S.backE (s3.perm (List.Perm.swap _ _ _)) (by simp [hil]) hu
            rw [set_set'] at s4
            exact k.ok e0 s4
      · exact k.elim
  · exact k.elim
  
/-! ### a method of a list within slot i; the arguments pure -/
def pthR : Env → Option (List Nat) := fun _ => some []
def pthIx (i : Nat) (q : Env → Option (List Nat)) (p : PX) : Env → Option (List Nat) := fun env => match q env, p env, env[i]? with
  | some π, some (_, _, .int j), some (.val k d) => match subAt d k π with
    | some (k1, .nd .lst xs) => if k1.isZ = true then none else (ixN xs.length j).bind fun n => if n < xs.length then some (π ++ [n]) else none
    | _ => none
  | _, _, _ => none
def tPth (i : Nat) (q : Env → Option (List Nat)) : TE := fun σ H Q => ∃ H0 HF env ts fe ft π, S H0 HF H σ env ts fe ft ∧ q env = some π ∧ (∃ k d, env[i]? = some (.val k d) ∧ (subAt d k π).isSome = true) ∧
  ∀ H' H0' ft' w u, Ex H0 H0' → Ex H H' → S H0' HF H' σ env ts fe ft' → σ[i]? = some (some w) → At H' w π u → Q u H'
theorem sub_snoc : ∀ {d : D} {k : Kd} {π : List Nat} {n : Nat} {k1 : Kd} {s1 : Sh} {xs : List D}, subAt d k π = some (k1, .nd s1 xs) → k1.isZ = false → subAt d k (π ++ [n]) = (xs[n]?).bind fun d => some (k1.kid n, d)
  | d, k, [], n, k1, s1, xs, h, hz => by
    have h : some (k, d) = some (k1, .nd s1 xs) := by cases d <;> exact h
    cases h
    show subAt (.nd s1 xs) k [n] = _
    unfold subAt
    rw [hz, if_neg Bool.false_ne_true]
    cases xs[n]? with
    | none => rfl
    | some d => cases d <;> rfl
  | .nd s ys, k, m :: π, n, k1, s1, xs, h, hz => by
    show subAt (.nd s ys) k (m :: (π ++ [n])) = _
    unfold subAt at h ⊢
    split at h
    · cases h
    · rename_i hk
      rw [if_neg hk]
      cases hx : ys[m]? with
      | none => rw [hx] at h; cases h
      | some d =>
        rw [hx, Option.bind_some] at h
        rw [Option.bind_some]
        exact sub_snoc h hz
  | .non, _, _ :: _, _, _, _, _, h, _ => by cases h
  | .bl _, _, _ :: _, _, _, _, _, h, _ => by cases h
  | .int _, _, _ :: _, _, _, _, _, h, _ => by cases h
  | .str _, _, _ :: _, _, _, _, _, h, _ => by cases h
theorem At.snoc {H : Hp} : ∀ {π : List Nat} {w u : V} {a : Addr} {o : HO} {n : Nat} {c : V}, At H w π u → u = .ref a → H a = some o → (Vt.kids o)[n]? = some c → At H w (π ++ [n]) c
  | [], w, u, a, o, n, c, h, h1, h2, h3 => by
    have e : u = w := h
    subst e
    exact ⟨a, o, c, h1, h2, h3, rfl⟩
  | m :: π, w, u, a, o, n, c, h, h1, h2, h3 => by
    obtain ⟨a', o', c', g1, g2, g3, g4⟩ := h
    exact ⟨a', o', c', g1, g2, g3, At.snoc g4 h1 h2 h3⟩
theorem At.there {k : Kd} {d : D} {w : V} {f : Fp} {π : List Nat} {k1 : Kd} {d1 : D} (e0 : Ex H0 H) (r : Rk H0 H d k w f) (h : subAt d k π = some (k1, d1)) : ∃ u f1, At H w π u ∧ Rk H0 H d1 k1 u f1 := by
  obtain ⟨u, f1, f2, a, b, _⟩ := Rk.focus e0 r h
  exact ⟨u, f1, a, b⟩
theorem sh_pthR {i : Nat} {Q : VK} (z : tPth i pthR σ H Q) : tVar i σ H Q := by
  obtain ⟨H0, HF, env, ts, fe, ft, π, s, hq, ⟨k, d, he, _⟩, kk⟩ := z
  cases hq
  obtain ⟨w, f1, hw, r, _⟩ := s.re.get he
  exact ⟨w, hw, kk H H0 ft w w (Ex.refl _) (Ex.refl _) s hw rfl⟩
theorem sh_pthIx {K : PySem.W.Frag} {i : Nat} {q : Env → Option (List Nat)} {p : PX} {Q : VK} (z : tPth i (pthIx i q p) σ H Q) : tOp (fun x y H Q => rIxL K x y H Q ∨ rIxT K x y H Q ∨ rIxS x y H Q) (tPth i q) (tP p) σ H Q := by
  obtain ⟨H0, HF, env, ts, fe, ft, π', s, hq, ⟨k, d, he, hs'⟩, kk⟩ := z
  unfold pthIx at hq
  split at hq
  · rename_i π b kd j k2 d2 hqq hpp hee
    rw [he] at hee
    cases hee
    split at hq
    · rename_i k1 xs hsub
      split at hq
      · cases hq
      · rename_i hkz
        have hkz : k1.isZ = false := by simpa using hkz
        cases hj : ixN xs.length j with
        | none => rw [hj] at hq; cases hq
        | some n =>
          rw [hj, Option.bind_some] at hq
          split at hq
          · rename_i hn
            cases hq
            refine ⟨H0, HF, env, ts, fe, ft, π, s, hqq, ⟨k, d, he, by rw [hsub]; rfl⟩, fun H1 H01 ft1 w u e0 e s1 hw hat => ?_⟩
            refine ⟨H01, HF, env, ts, fe, ft1, _, s1, hpp, fun H2 H02 y ft2 e02 e2 s2 ry => ?_⟩
            obtain ⟨ft3, s3⟩ := s2.popP
            obtain ⟨w', f1, hw', r, _⟩ := s3.re.get he
            rw [hw] at hw'
            cases hw'
            obtain ⟨u', f3, hat', r1⟩ := At.there s3.sub r hsub
            have eu := (hat.mono e2).inj hat'
            subst eu
            obtain ⟨a, dx, vs, g, ru, rstd, rk, _⟩ := Rk.kids s3.sub r1
            subst ru
            have hlen : vs.length = xs.length := RkL.length rk
            have hv : vs[n]? = some (vs[n]'(by omega)) := by simp
            refine .inl ⟨a, vs, j, _, rfl, ry.rf s2.sub, .inl (.inl rstd), SqLT_at (by rw [hlen]; exact hj) hv, ?_⟩
            exact kk H2 H02 ft3 w _ (e0.trans e02) (e.trans e2) s3 hw (At.snoc (hat.mono e2) rfl (show H2 a = some (.lst vs) from rstd) hv)
          · cases hq
    · cases hq
  · cases hq
def mvs : List Pv → Option (List Mv)
  | [] => some []
  | (false, k, d) :: vs => (mvs vs).map fun r => (k, d) :: r
  | _ => none
theorem mvs_T : ∀ {vs : List Pv} {ws : List Mv} {us : List V}, mvs vs = some ws → us.length = vs.length → tmsOf vs us = zipT ws us ∧ us.length = ws.length
  | [], ws, us, h, hl => by
    cases h
    have e : us = [] := List.eq_nil_of_length_eq_zero hl
    subst e
    exact ⟨rfl, rfl⟩
  | (false, k, d) :: vs, ws, us, h, hl => by
    simp only [mvs, Option.map_eq_some_iff] at h
    obtain ⟨r, h1, rfl⟩ := h
    cases us with
    | nil => cases hl
    | cons u us =>
      obtain ⟨a, b⟩ := mvs_T (us := us) h1 (by simpa using hl)
      exact ⟨by simp only [tmsOf, zipT, tmOf, Bool.false_eq_true, if_false, List.singleton_append]; rw [a], by simp [b]⟩
  | (true, k, d) :: vs, ws, us, h, hl => by cases h
theorem RVs.length : ∀ {vs : List Pv} {us : List V}, RVs H0 H fe vs us → us.length = vs.length
  | [], _, h => by rw [show _ = [] from h]; rfl
  | v :: vs, _, h => by
    obtain ⟨u, r, rfl, _, h3⟩ := h
    simp [RVs.length h3]
def mutP (i : Nat) (q : Env → Option (List Nat)) (g : Kd → D → List Mv → Option (D × Mv)) (ps : Env → Option (List Pv)) : MX Mv := fun env => match q env, env[i]?, ps env with
  | some π, some (.val k d), some vs => match subAt d k π, mvs vs with
    | some (k1, .nd .lst xs), some ws => if k1.isZ = true then .bad else match g k1 (.nd .lst xs) ws with
      | some (d1, v) => .ok v (env.put i (.val k (updD d π d1)))
      | none => .bad
    | _, _ => .bad
  | _, _, _ => .bad
theorem sh_mutP {K : PySem.W.Frag} {i : Nat} {q : Env → Option (List Nat)} {g : Kd → D → List Mv → Option (D × Mv)} {r : V → List V → Hp → VK → Prop} {ps : Env → Option (List Pv)} (h : MopOk g r) : ShM E (tBM K "list" r (tPth i q) (tPA ps)) (mutP i q g ps) := by
  intro σ H Q z
  obtain ⟨H0, HF, env, ts, fe, ft, s, k⟩ := tM_in z
  unfold mutP at k
  split at k
  · rename_i π kd d vs hq he hps
    split at k
    · rename_i k1 xs ws hsub hws
      split at k
      · exact k.elim
      · rename_i hkz
        have hkz : k1.isZ = false := by simpa using hkz
        cases hg : g k1 (.nd .lst xs) ws with
        | none => rw [hg] at k; exact k.elim
        | some dv =>
          obtain ⟨d1, v⟩ := dv
          rw [hg] at k
          refine ⟨H0, HF, env, ts, fe, ft, π, s, hq, ⟨kd, d, he, by rw [hsub]; rfl⟩, fun H1 H01 ft1 w u e0 e s1 hw hat => ?_⟩
          have hty : tyV K "list" u H1 := by
            obtain ⟨w', f1, hw', r0, _⟩ := s1.re.get he
            rw [hw] at hw'
            cases hw'
            obtain ⟨u', f3, hat', r1⟩ := At.there s1.sub r0 hsub
            have eu := hat.inj hat'
            subst eu
            exact (r1.rf s1.sub).tyL
          refine ⟨hty, H01, HF, env, ts, fe, ft1, vs, s1, hps, fun H2 H02 us ft2 e02 e2 s2 rv => ?_⟩
          obtain ⟨hz, hl⟩ := mvs_T hws rv.length
          rw [hz] at s2
          obtain ⟨fe3, ft3, w', hw', s3⟩ := s2.takeE he
          rw [hw] at hw'
          cases hw'
          obtain ⟨HF', u', ft4, hat', s4, plug⟩ := s3.focus hsub
          have eu := (hat.mono e2).inj hat'
          subst eu
          have hil : i < env.length := (List.getElem?_eq_some_iff.mp he).1
          refine h.ok hkz hl (s4.perm List.perm_middle.symm) hg fun H5 wv ft5 s5 => ?_
          obtain ⟨ft6, s6⟩ := plug (rs := [(v.1, v.2, wv)]) (Ex.refl _) s5
          obtain ⟨fe7, ft7, s7⟩ := S.backE (s6.perm (List.Perm.swap _ _ _)) (by simp [hil]) hw
          rw [set_set'] at s7
          exact k.ok (e0.trans e02) s7
    · exact k.elim
  · exact k.elim

/-! ### xs[i] = e -/
def setR (i : Nat) (q : PX) (m : MX Mv) : SX := fun env => match m env with
  | .ok v e => match q e, e[i]? with
    | some (_, _, .int j), some (.val k (.nd .lst xs)) => match ixN xs.length j with
      | some n => if (!k.isZ && Kd.beq v.1 (k.kid n)) = true then .nx (e.put i (.val k (.nd .lst (xs.set n v.2)))) else .bad
      | none => .bad
    | _, _ => .bad
  | .exc C x e => .exc C x e
  | .bad => .bad
theorem RkL.set1 {H0 H : Hp} : ∀ {xs : List D} {kf : Nat → Kd} {vs : List V} {g g' : Fp} {n : Nat} {d : D} {v : V}, RkL H0 H xs kf vs g → Rk H0 H d (kf n) v g' → ∃ g2, RkL H0 H (xs.set n d) kf (vs.set n v) g2 ∧ ∀ x, g2 x ≤ g x + g' x
  | [], kf, vs, g, g', n, d, v, h, _ => by
    have e : vs = [] := h.1
    subst e
    exact ⟨g, h, fun x => by omega⟩
  | a :: xs, kf, vs, g, g', 0, d, v, h, h' => by
    obtain ⟨u, us, f1, f2, rfl, r1, r2, r3⟩ := h
    exact ⟨fun x => g' x + f2 x, ⟨v, us, g', f2, rfl, h', r2, fun _ => rfl⟩, fun x => by have := r3 x; dsimp only; omega⟩
  | a :: xs, kf, vs, g, g', n + 1, d, v, h, h' => by
    obtain ⟨u, us, f1, f2, rfl, r1, r2, r3⟩ := h
    obtain ⟨g2, q1, q2⟩ := RkL.set1 (n := n) r2 h'
    exact ⟨fun x => f1 x + g2 x, ⟨u, _, f1, g2, rfl, r1, q1, fun _ => rfl⟩, fun x => by have := r3 x; have := q2 x; dsimp only; omega⟩
theorem sh_setR {pd : List Nat} {Dn : Ends} {te : TE} {i : Nat} {q : PX} {m : MX Mv} (h : ShM E te m) (z : tS E pd (setR i q m) Dn σ H) : tAsg te (gSub (tVar i) (tP q) rSetL) Dn σ H := by
  obtain ⟨H0, HF, env, ts, fe, ft, s, k⟩ := z
  refine h (tM_out s ?_)
  unfold setR at k
  cases hm : m env with
  | exc C x e => rw [hm] at k; exact KSR.exc k
  | bad => rw [hm] at k; exact k
  | ok v e =>
    rw [hm] at k
    dsimp only at k
    obtain ⟨vk, vd⟩ := v
    intro H1 H01 y fe1 ft1 e0 s1
    split at k
    · rename_i b kk j kd xs hq he
      cases hj : ixN xs.length j with
      | none => rw [hj] at k; exact k.elim
      | some n =>
        rw [hj] at k
        dsimp only at k
        have hc : (!kd.isZ && Kd.beq vk (kd.kid n)) = true := by
          cases c : (!kd.isZ && Kd.beq vk (kd.kid n)) with
          | true => rfl
          | false => rw [c, if_neg Bool.false_ne_true] at k; exact k.elim
        rw [if_pos hc] at k
        simp only [Bool.and_eq_true, Bool.not_eq_true'] at hc
        have ek := Kd.beq_eq hc.2
        subst ek
        obtain ⟨w, f1, hw, r0, _⟩ := s1.re.get he
        refine ⟨w, hw, H01, HF, e, _, fe1, ft1, _, s1, hq, fun H2 H02 u ft2 e02 e2 s2 ru => ?_⟩
        have eu : u = .int j := ru.rf s2.sub
        subst eu
        obtain ⟨ft3, s3⟩ := s2.popP
        obtain ⟨fe4, ft4, w', hw', s4⟩ := s3.takeE he
        rw [hw] at hw'
        cases hw'
        obtain ⟨p, rfl⟩ := refOf (cs := []) s4
        have s5 := s4.perm (List.Perm.swap _ _ _)
        obtain ⟨ws, h1, h2⟩ := S.lstAt (cs := [(kd.kid n, vd, y)]) s5 hc.1
        obtain ⟨ft6, s6⟩ := S.setT (cs := [(kd.kid n, vd, y)]) s5 hc.1 h1 [] (xs.set n vd) (ws.set n y) fun gc g qc qg => by
          obtain ⟨f1, f2, r1, r2, r3⟩ := qc
          obtain ⟨g2, q1, q2⟩ := RkL.set1 qg r1
          exact ⟨fun _ => 0, g2, fun _ => rfl, q1, fun x => by have := q2 x; have := r3 x; dsimp only; omega⟩
        refine ⟨p, ws, j, n, rfl, rfl, h1, by rw [h2]; exact hj, ?_⟩
        have hil : i < e.length := (List.getElem?_eq_some_iff.mp he).1
        obtain ⟨fe7, ft7, s7⟩ := S.backE s6 (by simp [hil]) hw
        rw [set_set'] at s7
        exact KSR.nx k (e0.trans e02) Pin.refl s7
    · exact k.elim
end
section
variable {X : Cx} {E : XK} {pd : List Nat} {o e ix : Expr} {es : List Expr} {pos : Pos} {i : Nat}
theorem em_mutR {name : Str} {apos cpos : Pos} {id : String} {r : V → List V → Hp → VK → Prop} {g : Kd → D → List Mv → Option (D × Mv)} {ms : MX (List Mv)} (h : MopOk g r) (hp : PE X (.Call (.Attribute o name apos) es [] cpos) (tBM X.K "list" r (tVar i) (tMA E ms))) : PE X (.Call (.Attribute o name apos) es [] cpos) (tM E (mutR i g ms)) :=
  pe_mono hp fun _ _ _ z => sh_mutR h z
theorem em_mutR0 {name : Str} {apos cpos : Pos} {r : V → List V → Hp → VK → Prop} {g : Kd → D → List Mv → Option (D × Mv)} (h : MopOk g r) (hp : PE X (.Call (.Attribute o name apos) [] [] cpos) (tBM0 X.K "list" r (tVar i))) : PE X (.Call (.Attribute o name apos) [] [] cpos) (tM E (mutR i g mNil)) :=
  pe_mono hp fun _ _ _ z => by
    obtain ⟨u, hu, ht, q⟩ := sh_mutR (K := X.K) (ms := mNil) h z
    exact ⟨u, hu, ht, sh_mNil q⟩
theorem em_mutP {name : Str} {apos cpos : Pos} {r : V → List V → Hp → VK → Prop} {g : Kd → D → List Mv → Option (D × Mv)} {q : Env → Option (List Nat)} {ps : Env → Option (List Pv)} (h : MopOk g r) (hp : PE X (.Call (.Attribute o name apos) es [] cpos) (tBM X.K "list" r (tPth i q) (tPA ps))) : PE X (.Call (.Attribute o name apos) es [] cpos) (tM E (mutP i q g ps)) :=
  pe_mono hp fun _ _ _ z => sh_mutP h z
theorem pth_R (h : PE X e (tVar i)) : PE X e (tPth i pthR) := pe_mono h fun _ _ _ z => sh_pthR z
theorem pth_Ix {q : Env → Option (List Nat)} {p : PX} (ha : PE X o (tPth i q)) (hb : PE X ix (tP p)) (hs : PlainIx ix := by intro _ _; rfl) : PE X (.Subscript o ix pos) (tPth i (pthIx i q p)) := pe_mono (pe_ix ix_seq ha hb hs) fun _ _ _ z => sh_pthIx z
theorem st_setR {st : Stmt} {te : TE} {q : PX} {m : MX Mv} (h : PS X st (tAsg te (gSub (tVar i) (tP q) rSetL))) (hm : ShM E te m) : PS X st (tS E pd (setR i q m)) := ps_mono h fun _ _ _ z => sh_setR hm z
end
end Vt

set_option Elab.async false
set_option linter.all false
set_option autoImplicit false
set_option maxRecDepth 100000
set_option maxHeartbeats 1000000
/-! Vt16: more primitives: isinstance, chains, min, max, sum, int(), sorted(), x in xs, x op= e. -/
namespace Vt
open PySem L2

/-! ### isinstance -/
def tyName : D → Option String
  | .non => some "NoneType"
  | .bl _ => some "bool"
  | .int _ => some "int"
  | .str _ => some "str"
  | .nd .lst _ => some "list"
  | .nd .scr _ => some "list"
  | .nd .tup _ => some "tuple"
  | .nd (.dK _) _ => some "dict"
  | .nd (.dT _) _ => some "dict"
  | _ => none
def isiB (n T : String) : Bool := n == T || (n == "bool" && T == "int")
structure IsiT (T : String) : Prop where
  ok : ∀ (K : PySem.W.Frag) (n : String), n ∈ ["NoneType", "bool", "int", "str", "list", "tuple", "dict"] → PySem.W.kitOne K (.type n) (.type T) = some (isiB n T)
theorem isi_bool : IsiT "bool" := ⟨fun K n h => by
  simp only [List.mem_cons, List.not_mem_nil, or_false] at h; rcases h with rfl | rfl | rfl | rfl | rfl | rfl | rfl <;> rfl⟩
theorem isi_int : IsiT "int" := ⟨fun K n h => by
  simp only [List.mem_cons, List.not_mem_nil, or_false] at h; rcases h with rfl | rfl | rfl | rfl | rfl | rfl | rfl <;> rfl⟩
theorem isi_str : IsiT "str" := ⟨fun K n h => by
  simp only [List.mem_cons, List.not_mem_nil, or_false] at h; rcases h with rfl | rfl | rfl | rfl | rfl | rfl | rfl <;> rfl⟩
theorem isi_list : IsiT "list" := ⟨fun K n h => by
  simp only [List.mem_cons, List.not_mem_nil, or_false] at h; rcases h with rfl | rfl | rfl | rfl | rfl | rfl | rfl <;> rfl⟩
theorem isi_tuple : IsiT "tuple" := ⟨fun K n h => by
  simp only [List.mem_cons, List.not_mem_nil, or_false] at h; rcases h with rfl | rfl | rfl | rfl | rfl | rfl | rfl <;> rfl⟩
theorem isi_dict : IsiT "dict" := ⟨fun K n h => by
  simp only [List.mem_cons, List.not_mem_nil, or_false] at h; rcases h with rfl | rfl | rfl | rfl | rfl | rfl | rfl <;> rfl⟩
theorem Rf.ty {K : PySem.W.Frag} {H : Hp} {d : D} {v : V} {n : String} (h : Rf H d v) (e : tyName d = some n) : TyX K H v (.type n) ∧ n ∈ ["NoneType", "bool", "int", "str", "list", "tuple", "dict"] := by
  unfold tyName at e
  split at e <;> first | cases e
  · cases (show v = .non from h); exact ⟨.base .non, by simp⟩
  · cases (show v = _ from h); exact ⟨.base (.bl _), by simp⟩
  · cases (show v = _ from h); exact ⟨.base (.int _), by simp⟩
  · cases (show v = _ from h); exact ⟨.base (.str _), by simp⟩
  · obtain ⟨a, dx, vs, rfl, h2, _, _⟩ := h; exact ⟨.base (.lst h2), by simp⟩
  · obtain ⟨a, dx, vs, rfl, ⟨o, h2⟩, _, _⟩ := h; exact ⟨.base (.frz h2), by simp⟩
  · obtain ⟨a, dx, vs, rfl, h2, _, _⟩ := h; exact ⟨.base (.tup h2), by simp⟩
  · obtain ⟨a, dx, vs, rfl, h2, _, _⟩ := h
    obtain ⟨kvs, h2, _⟩ : ∃ kvs, H a = some (.dK kvs) ∧ True := by
      first | exact ⟨_, h2.1, trivial⟩ | exact ⟨_, h2, trivial⟩
    exact ⟨.base (.dK h2), by simp⟩
  · obtain ⟨a, dx, vs, rfl, h2, _, _⟩ := h
    obtain ⟨kvs, h2, _⟩ : ∃ kvs, H a = some (.dT kvs) ∧ True := by
      first | exact ⟨_, h2.1, trivial⟩ | exact ⟨_, h2, trivial⟩
    exact ⟨.base (.dT h2), by simp⟩
def gIsi (T : String) : Pv → Option Pv
  | (_, _, d) => match tyName d with
    | some n => ret (.bl (isiB n T))
    | none => none
section
variable {X : Cx} {a b c e : Expr} {pos : Pos} {p q w : PX}
theorem sh_isi {K : PySem.W.Frag} {T : String} (hT : IsiT T) : ShP (tCB (rIsi K) (tCons (tP p) (tCons (tC (.ty T)) tNil))) (pOp1 (gIsi T) p) := by
  intro σ H Q z
  obtain ⟨H0, HF, env, ts, fe, ft, v, s, hp, k⟩ := z
  unfold pOp1 at hp
  cases ha : p env with
  | none => rw [ha] at hp; cases hp
  | some v1 =>
    rw [ha, Option.bind_some] at hp
    obtain ⟨b1, k1, d1⟩ := v1
    simp only [gIsi] at hp
    split at hp
    · rename_i n hn
      cases hp
      refine ⟨H0, HF, env, ts, fe, ft, _, s, ha, fun H1 H01 x ft1 e0 e s1 rx => ?_⟩
      obtain ⟨ty, hm⟩ := (rx.rf s1.sub).ty (K := K) hn
      obtain ⟨ft2, s2⟩ := s1.popP
      exact ⟨x, .ty T, _, _, _, rfl, .ty T, ty, hT.ok K n hm, (k.drop e0 e).z s2 rfl⟩
    · cases hp
theorem pv_isi {T : Str} {Tn : String} {pp tp : Pos} (hT : IsiT Tn) (hg : Gl X "isinstance") (hm : X.mg "isinstance" = none) (hg2 : Gl X T) (hm2 : X.mg T = none) (hv2 : bootBuiltins T = some (.type Tn)) (ha : PE X a (tP p))
    (hn2 : T ≠ "__name__" := by decide) (hd2 : (T == ("__debug__" : Str)) = false := by decide)
    (he : starEach [a, .Name T tp] X.env = (false, eval a X.env) :: starEach [.Name T tp] X.env := by rfl) (he2 : starEach [.Name T tp] X.env = (false, eval (.Name T tp) X.env) :: starEach [] X.env := by rfl) (hpl : (backTo pos (starEach [.Name T tp] X.env)).any (·.1) = false := by rfl) :
    PE X (.Call (.Name "isinstance" pp) [a, .Name T tp] [] pos) (tP (pOp1 (gIsi Tn) p)) :=
  pe_mono (pe_callB call_isi hg hm (by rfl) (pa_cons ha (pa_cons (pe_bltn hg2 hm2 hv2 (show RelV (.ty Tn) (.type Tn) from rfl) hn2 hd2) pa_nil he2) he) (he := he) (hpl := hpl)) fun _ _ _ z => sh_isi hT z

/-! ### a op b op' c -/
theorem sh_chain {g g' : Pv → Pv → Option Pv} {r r' : R2} (h : PrOk (g2 g) (r2 r)) (h' : PrOk (g2 g') (r2 r')) : ShP (tChain r r' (tP p) (tP q) (tP w)) (pChain g g' p q w) := by
  intro σ H Q z
  obtain ⟨H0, HF, env, ts, fe, ft, v, s, hp, k⟩ := z
  unfold pChain at hp
  split at hp
  · rename_i x y hx hy
    refine ⟨H0, HF, env, ts, fe, ft, x, s, hx, fun H1 H01 u1 ft1 e0 e s1 rx => ?_⟩
    refine ⟨H01, HF, env, _, fe, ft1, y, s1, hy, fun H2 H02 u2 ft2 e02 e2 s2 ry => ?_⟩
    split at hp
    · rename_i hg
      have s2' := s2
      rw [← List.append_assoc] at s2'
      obtain ⟨ft3, s3, _⟩ := s2'.drop
      suffices hk : _ by
        obtain ⟨_, _, hxy, z⟩ := h.ok (vs := [x, y]) (us := [u1, u2]) s3 ⟨u1, [u2], rfl, rx.mono e02 e2, u2, [], rfl, ry, rfl⟩ hg (fun z H3 => ∃ k, z = .bl k ∧ (if k = true then tP w σ H3 fun w' H4 => r' u2 w' H4 Q else Q (.bl false) H3)) hk
        cases hxy; exact z
      · intro H3 H03 u3 ft4 e03 e3 s4 r3
        refine ⟨true, r3.rf s4.sub, iteT ?_⟩
        cases hw : w env with
        | none => rw [hw] at hp; cases hp
        | some zz =>
        rw [hw, Option.bind_some] at hp
        obtain ⟨ft5, s5⟩ := s4.popP
        refine ⟨H03, HF, env, _, fe, ft5, zz, s5, hw, fun H4 H04 u4 ft6 e04 e4 s6 rz => ?_⟩
        obtain ⟨ft7, s7⟩ := s6.popP
        obtain ⟨_, _, hyz, z⟩ := h'.ok (vs := [y, zz]) (us := [u2, u4]) s7 ⟨u2, [u4], rfl, (ry.mono e03 e3).mono e04 e4, u4, [], rfl, rz, rfl⟩ hp Q (k.drop (((e0.trans e02).trans e03).trans e04) (((e.trans e2).trans e3).trans e4))
        cases hyz
        exact z
    · rename_i hg
      cases hp
      have s2' := s2
      rw [← List.append_assoc] at s2'
      obtain ⟨ft3, s3, _⟩ := s2'.drop
      suffices hk : _ by
        obtain ⟨_, _, hxy, z⟩ := h.ok (vs := [x, y]) (us := [u1, u2]) s3 ⟨u1, [u2], rfl, rx.mono e02 e2, u2, [], rfl, ry, rfl⟩ hg (fun z H3 => ∃ k, z = .bl k ∧ (if k = true then tP w σ H3 fun w' H4 => r' u2 w' H4 Q else Q (.bl false) H3)) hk
        cases hxy; exact z
      · intro H3 H03 u3 ft4 e03 e3 s4 r3
        refine ⟨false, r3.rf s4.sub, iteF ?_⟩
        obtain ⟨ft5, s5⟩ := s4.popP
        exact (k.drop ((e0.trans e02).trans e03) ((e.trans e2).trans e3)).z s5 rfl
    · cases hp
  · cases hp
theorem pv_chain {op op' : CmpOp} {r r' : R2} {g g' : Pv → Pv → Option Pv} (ho : OpR X (compareOp op) r) (h : PrOk (g2 g) (r2 r)) (ho' : OpR X (compareOp op') r') (h' : PrOk (g2 g') (r2 r')) (ha : PE X a (tP p)) (hb : PE X b (tP q)) (hc : PE X c (tP w))
    (hm : lastMarks [op, op'] [b, c] = false := by with_unfolding_all rfl) : PE X (.Compare a [op, op'] [b, c] pos) (tP (pChain g g' p q w)) := pe_mono (pe_chain ho ho' ha hb hc hm) fun _ _ _ z => sh_chain h h' z
/-- a value of any expression as a test -/
theorem ptv_of (h : PE X e (tP p)) (he : ∀ whole, isTrue e X.env whole = (do let v ← whole; standAt e.pos; holding [v] (truthy v)) := by intro _; rfl) : PT X e (tPT (pTru p)) := ptv_truth h he
end

/-! ### built-in functions -/
def gMax2 : Pv → Pv → Option Pv := gI0 fun i j => .int (if j > i then j else i)
def gMin2 : Pv → Pv → Option Pv := gI0 fun i j => .int (if j < i then j else i)
theorem ok_call2 {f : Int → Int → Int} : PrOk (g2 (gI0 fun i j => .int (f i j))) (fun xs H Q => ∃ i j, xs = [.int i, .int j] ∧ Q (.int (f i j)) H) := by
  refine prOk2' fun {H0 HF H σ env ts fe ft a b v x y Q} s rx ry e k => ?_
  obtain ⟨b1, k1, d1⟩ := a
  obtain ⟨b2, k2, d2⟩ := b
  unfold gI0 at e
  split at e
  · rename_i _ _ i _ _ j h1 h2
    cases h1; cases h2
    cases e
    have e1 : x = .int i := rx.rf s.sub
    have e2 : y = .int j := ry.rf s.sub
    exact ⟨i, j, by rw [e1, e2], k.z s rfl⟩
  · cases e
theorem ok_max2 : PrOk (g2 gMax2) (fun xs H Q => ∃ i j, xs = [.int i, .int j] ∧ Q (.int (if j > i then j else i)) H) := ok_call2
theorem ok_min2 : PrOk (g2 gMin2) (fun xs H Q => ∃ i j, xs = [.int i, .int j] ∧ Q (.int (if j < i then j else i)) H) := ok_call2
abbrev gAbs := gU fun i => if i < 0 then -i else i
theorem ok_abs : PrOk (g1 gAbs) (fun xs H Q => ∃ i, xs = [.int i] ∧ Q (.int (if i < 0 then -i else i)) H) := by
  refine prOk1' fun {H0 HF H σ env ts fe ft a v x Q} s rx e k => ?_
  obtain ⟨b1, k1, d1⟩ := a
  unfold gAbs gU at e
  split at e
  · rename_i _ _ i h1
    cases h1; cases e
    have e1 : x = .int i := rx.rf s.sub
    exact ⟨i, by rw [e1], k.z s rfl⟩
  · cases e
def gInt : Pv → Option Pv
  | (_, _, .int i) => ret (.int i)
  | (_, _, .bl b) => ret (.int (if b then 1 else 0))
  | _ => none
theorem ok_int : PrOk (g1 gInt) (fun xs H Q => (∃ i, xs = [.int i] ∧ Q (.int i) H) ∨ ∃ k, xs = [.bl k] ∧ Q (.int (if k then 1 else 0)) H) := by
  refine prOk1' fun {H0 HF H σ env ts fe ft a v x Q} s rx e k => ?_
  obtain ⟨b1, k1, d1⟩ := a
  unfold gInt at e
  split at e
  · rename_i _ _ i h1
    cases h1; cases e
    have e1 : x = .int i := rx.rf s.sub
    exact .inl ⟨i, by rw [e1], k.z s rfl⟩
  · rename_i _ _ i h1
    cases h1; cases e
    have e1 : x = .bl i := rx.rf s.sub
    exact .inr ⟨i, by rw [e1], k.z s rfl⟩
  · cases e

/-! ### lists of ints -/
theorem RfL.ints' {H : Hp} {ds : List D} {vs : List V} {ns : List Int} (h : RfL H ds vs) (e : D.ints ds = some ns) : vs = ns.map V.int := by
  have := ints_eq e
  subst this
  exact RfL.ints h
theorem RfL.ofInts {H : Hp} : ∀ (ns : List Int), RfL H (ns.map D.int) (ns.map V.int)
  | [] => .nil
  | i :: ns => .cons rfl (RfL.ofInts ns)
def D.lstInts (d : D) : Option (List Int) := (d.lstOf).bind D.ints
theorem Rf.lstInts {K : PySem.W.Frag} {H : Hp} {d : D} {v : V} {ns : List Int} (h : Rf H d v) (e : d.lstInts = some ns) : ∃ a, v = .ref a ∧ SqL K H a (ns.map V.int) := by
  simp only [D.lstInts, Option.bind_eq_some_iff] at e
  obtain ⟨xs, e1, e2⟩ := e
  unfold D.lstOf at e1
  split at e1
  · cases e1; obtain ⟨a, dx, vs, rfl, h2, _, h4⟩ := h; exact ⟨a, rfl, .inl (.inl (by rw [← RfL.ints' h4 e2]; exact h2))⟩
  · cases e1; obtain ⟨a, dx, vs, rfl, ⟨o, h2⟩, _, h4⟩ := h; exact ⟨a, rfl, .inl (.inr ⟨o, by rw [← RfL.ints' h4 e2]; exact h2⟩)⟩
  · cases e1
def gLI (f : List Int → Option D) : Pv → Option Pv
  | (_, _, d) => (d.lstInts).bind fun ns => (f ns).bind fun r => ret r
def maxI : List Int → Option D
  | [] => none
  | i :: ns => some (.int (ns.foldl max i))
def minI : List Int → Option D
  | [] => none
  | i :: ns => some (.int (ns.foldl min i))
theorem foldl_max_ge (ns : List Int) : ∀ i : Int, i ≤ ns.foldl max i ∧ ∀ y ∈ ns, y ≤ ns.foldl max i := by
  induction ns with
  | nil => intro i; exact ⟨Int.le_refl _, fun y hy => by cases hy⟩
  | cons a ns ih =>
    intro i
    obtain ⟨h1, h2⟩ := ih (max i a)
    refine ⟨by simp only [List.foldl_cons]; omega, fun y hy => ?_⟩
    rcases List.mem_cons.mp hy with rfl | hy
    · simp only [List.foldl_cons]; omega
    · exact h2 y hy
theorem foldl_max_mem (ns : List Int) : ∀ i : Int, ns.foldl max i = i ∨ ns.foldl max i ∈ ns := by
  induction ns with
  | nil => intro i; exact .inl rfl
  | cons a ns ih =>
    intro i
    simp only [List.foldl_cons]
    rcases ih (max i a) with h | h
    · rcases Int.le_total i a with q | q
      · right; rw [h, Int.max_eq_right q]; exact List.mem_cons_self
      · left; rw [h, Int.max_eq_left q]
    · right; exact List.mem_cons_of_mem _ h
theorem foldl_min_le (ns : List Int) : ∀ i : Int, ns.foldl min i ≤ i ∧ ∀ y ∈ ns, ns.foldl min i ≤ y := by
  induction ns with
  | nil => intro i; exact ⟨Int.le_refl _, fun y hy => by cases hy⟩
  | cons a ns ih =>
    intro i
    obtain ⟨h1, h2⟩ := ih (min i a)
    refine ⟨by simp only [List.foldl_cons]; omega, fun y hy => ?_⟩
    rcases List.mem_cons.mp hy with rfl | hy
    · simp only [List.foldl_cons]; omega
    · exact h2 y hy
theorem foldl_min_mem (ns : List Int) : ∀ i : Int, ns.foldl min i = i ∨ ns.foldl min i ∈ ns := by
  induction ns with
  | nil => intro i; exact .inl rfl
  | cons a ns ih =>
    intro i
    simp only [List.foldl_cons]
    rcases ih (min i a) with h | h
    · rcases Int.le_total i a with q | q
      · left; rw [h, Int.min_eq_left q]
      · right; rw [h, Int.min_eq_right q]; exact List.mem_cons_self
    · right; exact List.mem_cons_of_mem _ h
abbrev gMaxL := gLI maxI
abbrev gMinL := gLI minI
abbrev gSum := gLI fun ns => some (.int ns.sum)
theorem gLI_some {f : List Int → Option D} {b : Bool} {k : Kd} {d : D} {v : Pv} (e : gLI f (b, k, d) = some v) : ∃ ns r, d.lstInts = some ns ∧ f ns = some r ∧ v = (false, .z, r) := by
  simp only [gLI, Option.bind_eq_some_iff] at e
  obtain ⟨ns, h1, r, h2, h3⟩ := e
  cases h3
  exact ⟨ns, r, h1, h2, rfl⟩
theorem ok_maxL {K : PySem.W.Frag} : PrOk (g1 gMaxL) (rMax K) := by
  refine prOk1' fun {H0 HF H σ env ts fe ft a v x Q} s rx e k => ?_
  obtain ⟨b1, k1, d1⟩ := a
  obtain ⟨ns, r, h1, h2, rfl⟩ := gLI_some e
  obtain ⟨p, h3, h4⟩ := (rx.rf s.sub).lstInts (K := K) h1
  cases ns with
  | nil => cases h2
  | cons i ns =>
    cases h2
    refine ⟨p, _, by rw [h3], h4, by simp, fun m hm hy => ?_⟩
    obtain ⟨q1, q2⟩ := foldl_max_ge ns i
    have e : m = ns.foldl max i := by
      refine Int.le_antisymm ?_ ?_
      · rcases List.mem_cons.mp hm with rfl | hm
        · exact q1
        · exact q2 m hm
      · rcases foldl_max_mem ns i with q | q
        · rw [q]; exact hy i List.mem_cons_self
        · exact hy _ (List.mem_cons_of_mem _ q)
    rw [e]
    exact k.z s rfl
theorem ok_minL {K : PySem.W.Frag} : PrOk (g1 gMinL) (rMin K) := by
  refine prOk1' fun {H0 HF H σ env ts fe ft a v x Q} s rx e k => ?_
  obtain ⟨b1, k1, d1⟩ := a
  obtain ⟨ns, r, h1, h2, rfl⟩ := gLI_some e
  obtain ⟨p, h3, h4⟩ := (rx.rf s.sub).lstInts (K := K) h1
  cases ns with
  | nil => cases h2
  | cons i ns =>
    cases h2
    refine ⟨p, _, by rw [h3], h4, by simp, fun m hm hy => ?_⟩
    obtain ⟨q1, q2⟩ := foldl_min_le ns i
    have e : m = ns.foldl min i := by
      refine Int.le_antisymm ?_ ?_
      · rcases foldl_min_mem ns i with q | q
        · rw [q]; exact hy i List.mem_cons_self
        · exact hy _ (List.mem_cons_of_mem _ q)
      · rcases List.mem_cons.mp hm with rfl | hm
        · exact q1
        · exact q2 m hm
    rw [e]
    exact k.z s rfl
theorem ok_sum {K : PySem.W.Frag} : PrOk (g1 gSum) (rSum K) := by
  refine prOk1' fun {H0 HF H σ env ts fe ft a v x Q} s rx e k => ?_
  obtain ⟨b1, k1, d1⟩ := a
  obtain ⟨ns, r, h1, h2, rfl⟩ := gLI_some e
  obtain ⟨p, h3, h4⟩ := (rx.rf s.sub).lstInts (K := K) h1
  cases h2
  exact ⟨p, ns, by rw [h3], h4, k.z s rfl⟩
/-- sorted(xs), ints -/
def sortI (ns : List Int) : List Int := ns.mergeSort
theorem sortI_perm (ns : List Int) : (sortI ns).Perm ns := List.mergeSort_perm ns _
theorem sortI_pw (ns : List Int) : (sortI ns).Pairwise (· ≤ ·) := by
  have := List.pairwise_mergeSort (le := fun (a b : Int) => decide (a ≤ b)) (fun a b c h1 h2 => by simp at *; omega) (fun a b => by simp; omega) ns
  exact this.imp fun h => of_decide_eq_true h
theorem pw_perm_eq : ∀ {xs ys : List Int}, xs.Perm ys → xs.Pairwise (· ≤ ·) → ys.Pairwise (· ≤ ·) → xs = ys
  | [], ys, h, _, _ => h.nil_eq
  | x :: xs, [], h, _, _ => h.symm.nil_eq.symm
  | x :: xs, y :: ys, h, h1, h2 => by
    have hx : x ∈ y :: ys := h.subset List.mem_cons_self
    have hy : y ∈ x :: xs := h.symm.subset List.mem_cons_self
    rw [List.pairwise_cons] at h1 h2
    have e : x = y := by
      refine Int.le_antisymm ?_ ?_
      · rcases List.mem_cons.mp hy with e | e
        · rw [e]; exact Int.le_refl _
        · exact h1.1 _ e
      · rcases List.mem_cons.mp hx with e | e
        · rw [e]; exact Int.le_refl _
        · exact h2.1 _ e
    subst e
    rw [pw_perm_eq (List.Perm.cons_inv h) h1.2 h2.2]
def gSortI : Pv → Option Pv
  | (_, _, d) => (d.lstInts).bind fun ns => zlist ((sortI ns).map D.int)
theorem ok_sortI {K : PySem.W.Frag} : PrOk (g1 gSortI) (rSortedI K) := by
  refine prOk1' fun {H0 HF H σ env ts fe ft a v x Q} s rx e k => ?_
  obtain ⟨b1, k1, d1⟩ := a
  simp only [gSortI, Option.bind_eq_some_iff] at e
  obtain ⟨ns, h1, h2⟩ := e
  obtain ⟨p, h3, h4⟩ := (rx.rf s.sub).lstInts (K := K) h1
  cases h2
  refine ⟨p, ns, by rw [h3], h4, fun ns' l q1 q2 hl => ?_⟩
  have e : ns' = sortI ns := pw_perm_eq (q1.trans (sortI_perm ns).symm) q2 (sortI_pw ns)
  rw [e]
  exact k.newL s (RfL.ofInts _) hl
/-- x in xs, a list of plain data -/
def gIn (neg : Bool) : Pv → Pv → Option Pv
  | (_, _, d), (_, _, e) => match e.lstOf with
    | some xs => if (d.okE && e.okE) = true then ret (.bl (if neg then !(xs.any fun z => z.eqb d) else xs.any fun z => z.eqb d)) else none
    | none => none
theorem pys_any (d : D) : ∀ xs : List D, ((D.pys xs).any fun z => PyData.eqv z d.py) = xs.any fun z => z.eqb d
  | [] => rfl
  | x :: xs => by simp only [D.pys, List.any_cons, pys_any d xs]; rfl
theorem lstOf_py {e : D} {xs : List D} (h : e.lstOf = some xs) : e.py = .list (D.pys xs) := by
  unfold D.lstOf at h
  split at h <;> first | cases h | skip
  · rfl
  · rfl
theorem ok_in {K : PySem.W.Frag} : PrOk (g2 (gIn false)) (r2 (rInD K)) := by
  refine prOk2 fun {H0 HF H σ env ts fe ft a b v x y Q} s rx ry e k => ?_
  obtain ⟨b1, k1, d1⟩ := a
  obtain ⟨b2, k2, d2⟩ := b
  simp only [gIn] at e
  split at e
  · rename_i xs hl
    split at e
    · rename_i h
      simp only [D.okE, Bool.and_eq_true] at h
      cases e
      have hp := lstOf_py hl
      refine ⟨_, D.pys xs, (rx.rf s.sub).dp h.1.1, ?_, h.1.2, ?_, ?_⟩
      · rw [← hp]; exact (ry.rf s.sub).dp h.2.1
      · rw [← hp]; exact h.2.2
      · rw [pys_any]; exact k.z s rfl
    · cases e
  · cases e
theorem ok_notIn {K : PySem.W.Frag} : PrOk (g2 (gIn true)) (r2 (rNotInD K)) := by
  refine prOk2 fun {H0 HF H σ env ts fe ft a b v x y Q} s rx ry e k => ?_
  obtain ⟨b1, k1, d1⟩ := a
  obtain ⟨b2, k2, d2⟩ := b
  simp only [gIn] at e
  split at e
  · rename_i xs hl
    split at e
    · rename_i h
      simp only [D.okE, Bool.and_eq_true] at h
      cases e
      have hp := lstOf_py hl
      refine ⟨_, D.pys xs, (rx.rf s.sub).dp h.1.1, ?_, h.1.2, ?_, ?_⟩
      · rw [← hp]; exact (ry.rf s.sub).dp h.2.1
      · rw [← hp]; exact h.2.2
      · rw [pys_any]; exact k.z s rfl
    · cases e
  · cases e
theorem Room.units65 {k : Nat} {A : Around} (r : Room k A) : A.units + 65 < cLine := by have := r.un; omega
/-- xs * n, frozen items -/
def gRep : Pv → Pv → Option Pv
  | (_, k, .nd .lst xs), (_, _, .int j) => if (k.zs xs.length && decide (-(2 ^ 63) ≤ j) && decide (j < 2 ^ 63) && decide (xs.length * j.toNat ≤ 100000)) = true then zlist (List.replicate j.toNat xs).flatten else none
  | _, _ => none
theorem RfL.rep {H : Hp} {xs : List D} {vs : List V} (h : RfL H xs vs) : ∀ n : Nat, RfL H (List.replicate n xs).flatten (List.replicate n vs).flatten
  | 0 => .nil
  | n + 1 => by rw [List.replicate_succ, List.replicate_succ, List.flatten_cons, List.flatten_cons]; exact RfL.append h (RfL.rep h n)
theorem ok_rep : PrOk (g2 gRep) (r2 rRep) := by
  refine prOk2 fun {H0 HF H σ env ts fe ft a b v x y Q} s rx ry e k => ?_
  obtain ⟨b1, k1, d1⟩ := a
  obtain ⟨b2, k2, d2⟩ := b
  unfold gRep at e
  split at e
  · rename_i _ bb kk xs _ ll j h1 h2
    cases h1; cases h2
    split at e
    · rename_i h
      simp only [Bool.and_eq_true, decide_eq_true_eq] at h
      cases e
      obtain ⟨a, dx, vs, e1, e2, e3⟩ := rx.elems s.sub h.1.1.1
      have ey : y = .int j := ry.rf s.sub
      refine ⟨a, j, vs, e1, ey, e2, h.1.1.2, h.1.2, ?_, fun p hp => k.newL s (RfL.rep e3 _) hp⟩
      rw [e3.length]
      exact le_line h.2
    · cases e
  · cases e

/-! ### x op= e -/
section
variable {X : Cx} {E : XK} {pd : List Nat} {m : MX Mv} {e : Expr} {i : Nat} {x : Str} {pos pos' : Pos}
theorem ipI_eq {f : Int → Int → Int} : ipI f = rI (fun _ _ => True) fun i j => .int (f i j) := by
  funext x y H Q
  simp only [ipI, rI, true_and]
theorem st_augA (hN : X.N.Nodup) (hi : X.N[i]? = some x) (hx : Loc X.env.scope x) (he : PE X e (tM E m)) (hf : X.fn x = true ∨ X.env.scope.names.lookup x = some .local) (hp : pd.contains i = false := by rfl) :
    PS X (.AugAssign (.Name x pos') .Add e pos) (tS E pd (augS i (fun i j => i + j) (fun _ _ => true) m)) := ps_mono (ps_aug hN hi hx he ip_add hf) fun _ _ _ z => by
  rw [ipI_eq]
  exact sh_aug (fun q => q) hp (fun _ _ _ => trivial) z
theorem st_augS (hN : X.N.Nodup) (hi : X.N[i]? = some x) (hx : Loc X.env.scope x) (he : PE X e (tM E m)) (hf : X.fn x = true ∨ X.env.scope.names.lookup x = some .local) (hp : pd.contains i = false := by rfl) :
    PS X (.AugAssign (.Name x pos') .Sub e pos) (tS E pd (augS i (fun i j => i - j) (fun _ _ => true) m)) := ps_mono (ps_aug hN hi hx he ip_sub hf) fun _ _ _ z => by
  rw [ipI_eq]
  exact sh_aug (fun q => q) hp (fun _ _ _ => trivial) z
end
end Vt

set_option Elab.async false
set_option linter.all false
set_option autoImplicit false
set_option maxRecDepth 100000
set_option maxHeartbeats 1000000
/-! Vt17: comprehensions with two fors. -/
namespace Vt
open PySem L2
theorem ownZ_sub {own own1 : List Nat} (h : ∀ i ∈ own1, i ∈ own) : ∀ {e : Env} {n : Nat}, ownZ own n e = true → ownZ own1 n e = true
  | [], _, _ => rfl
  | s :: e, n, hz => by
    simp only [ownZ, Bool.and_eq_true, Bool.or_eq_true, Bool.not_eq_true'] at hz ⊢
    refine ⟨?_, ownZ_sub h hz.2⟩
    rcases hz.1 with q | q
    · left
      cases c : own1.contains n with
      | false => rfl
      | true =>
        have : own.contains n = true := by simpa using h n (by simpa using c)
        rw [q] at this; cases this
    · exact .inr q
theorem bind_back {own : List Nat} {pt : Pat} {d : D} {env env1 : Env} {σ σ2 : L2.St} (hslot : ∀ i, i ∈ pt.slots → own.contains i = true) (hlen : σ.length = env.length) (hl2 : σ2.length = σ.length) (hb : bnd pt d (wipeE own 0 env) = some env1) (hσ : ∀ i, i ∉ pt.slots → σ2[i]? = (wipe σ own)[i]?) :
    wipe σ2 own = wipe σ own ∧ ∀ {H0x HF Hx : Hp} {tsx : List Tm} {fe fx : Fp}, S H0x HF Hx σ2 env1 tsx fe fx → S H0x HF Hx (wipe σ own) (wipeE own 0 env) tsx fe fx := by
  refine ⟨wipe_eq hl2 fun j hj => by rw [hσ j (fun hm => by rw [hslot j hm] at hj; cases hj), wipe_get hj], fun {H0x HF Hx tsx fe fx} sx => ?_⟩
  refine sx.forget (by rw [bnd_length hb]) (by rw [wipe_length, hl2]) fun j s' hj => ?_
  cases e : own.contains j with
  | true =>
    left
    refine ⟨?_, bnd_zero hb hj fun s'' hs'' => ?_⟩
    · rw [wipeE_get, Nat.zero_add, e]
      cases q : env[j]? with
      | none =>
        have l1 := (List.getElem?_eq_some_iff.mp hj).1
        rw [bnd_length hb, wipeE_length] at l1
        rw [List.getElem?_eq_none_iff] at q
        omega
      | some _ => rfl
    · rw [wipeE_get, Nat.zero_add, e] at hs''
      cases q : env[j]? with
      | none => rw [q] at hs''; cases hs''
      | some _ => rw [q] at hs''; cases hs''; rfl
  | false =>
    right
    have hn : j ∉ pt.slots := fun hm => by rw [hslot j hm] at e; cases e
    refine ⟨?_, (hσ j hn).symm⟩
    cases q : (wipeE own 0 env)[j]? with
    | none =>
      have l1 := (List.getElem?_eq_some_iff.mp hj).1
      rw [bnd_length hb] at l1
      rw [List.getElem?_eq_none_iff] at q
      omega
    | some s'' =>
      rw [bnd_keep hb q hn] at hj
      exact hj
theorem bind_fe {own : List Nat} {pt : Pat} {env : Env} {fe fe2 : Fp} (hslot : ∀ i, i ∈ pt.slots → own.contains i = true) (hz : (∀ i ∈ pt.slots, ∀ s, (wipeE own 0 env)[i]? = some s → s.zero = true) → ∀ x, fe2 x = fe x) : fe2 = fe := funext (hz fun j hj s' hs' => by
  rw [wipeE_get, Nat.zero_add, hslot j hj] at hs'
  cases q : env[j]? with
  | none => rw [q] at hs'; cases hs'
  | some s'' => rw [q] at hs'; cases hs'; rfl)
theorem S.tmpD {H0 HF H : Hp} {σ : L2.St} {env : Env} {ts : List Tm} {fe ft : Fp} {k : Kd} {xs : List D} {p : Addr} (s : S H0 HF H σ env ((.all k, .nd .lst xs, .ref p) :: ts) fe ft) : fe p = 0 := by
  obtain ⟨f1, f2, q1, _, q3⟩ := id s.tmp
  obtain ⟨a, dx, vs, g, h1, h2, _, _⟩ := (Rk.nd_iff rfl).mp q1
  cases h1
  rw [if_neg (by decide)] at h2
  have h3 := h2.2 p
  have h4 := q3 p
  have h5 := s.uniq p
  simp only [one, if_pos] at h3
  omega
theorem S.tmpD' {H0 HF H : Hp} {σ : L2.St} {env : Env} {ts : List Tm} {fe ft : Fp} {t : Tm} {k : Kd} {xs : List D} {p : Addr} (s : S H0 HF H σ env (t :: (.all k, .nd .lst xs, .ref p) :: ts) fe ft) : fe p = 0 := (s.perm (List.Perm.swap _ _ _)).tmpD
/-- what is walked stands frozen -/
def tPI0 (it : Env → Option (List D)) : TI := fun σ H R => ∃ H0 HF env ts fe ft ds, S H0 HF H σ env ts fe ft ∧ it env = some ds ∧
  ∀ J H' H0' ft', Ex H0 H0' → Ex H H' → S H0' HF H' σ env ts fe ft' → Walks H0' H0' J ds → R J H'
def pItL0 (p : PX) : Env → Option (List D) := fun env => match p env with
  | some (_, .z, d) => d.lstOf
  | _ => none
theorem Rf.lstOf {K : PySem.W.Frag} {H : Hp} {d : D} {v : V} {xs : List D} (h : Rf H d v) (e : d.lstOf = some xs) : ∃ a vs, v = .ref a ∧ SqL K H a vs ∧ RfL H xs vs := by
  unfold D.lstOf at e
  split at e
  · cases e; obtain ⟨a, dx, vs, rfl, h2, _, h4⟩ := h; exact ⟨a, vs, rfl, .inl (.inl h2), h4⟩
  · cases e; obtain ⟨a, dx, vs, rfl, ⟨o, h2⟩, _, h4⟩ := h; exact ⟨a, vs, rfl, .inl (.inr ⟨o, h2⟩), h4⟩
  · cases e
theorem RV.frozen {H0 H : Hp} {fe : Fp} {b : Bool} {d : D} {u : V} (h : RV H0 H fe (b, .z, d) u) : Rf H0 d u := (Rk.z_iff.mp h.choose_spec.1).1
section
variable {X : Cx} {tg l : Expr} {pos : Pos} {p q : PX} {ps : Env → Option (List Pv)}
theorem pi0_list (h : PE X l (tP p)) : PI X tg l (tPI0 (pItL0 p)) := pi_mono (pi_list h) fun σ H R z => by
  obtain ⟨H0, HF, env, ts, fe, ft, ds, s, hp, k⟩ := z
  unfold pItL0 at hp
  split at hp
  · rename_i b d h1
    refine ⟨H0, HF, env, ts, fe, ft, _, s, h1, fun H1 H01 x ft1 e0 e s1 rx => ?_⟩
    obtain ⟨a, vs, rfl, h3, h4⟩ := (rx.frozen).lstOf (K := X.K) hp
    obtain ⟨ft2, s2⟩ := s1.popP
    refine ⟨a, rfl, ⟨vs, SqL.ex s1.sub h3⟩, k _ _ _ _ e0 e s2 fun i H' e' e0' => ⟨fun d hd => ?_, fun hd => ⟨vs, SqL.ex e' h3, ?_⟩⟩⟩
    · obtain ⟨w, q1, q2⟩ := RfL.get h4 hd
      refine ⟨⟨vs, w, SqL.ex e' h3, q1⟩, fun x H'' y => .inl ⟨y.1, ?_⟩⟩
      have := y.2 vs (SqL.ex e' h3)
      rw [q1] at this
      cases this
      exact q2
    · rw [RfL.length h4]
      exact List.getElem?_eq_none_iff.mp hd
  · cases hp
theorem pi0_rng1 {a : Expr} {pp : Pos} (hg : Gl X "range") (hm : X.mg "range" = none) (ha : PA X [a] (tPA ps)) (hs : starEach [a] X.env = [(false, eval a X.env)] := by rfl) : PI X tg (.Call (.Name "range" pp) [a] [] pos) (tPI0 (pItR1 ps)) :=
  pi_mono (pi_range1 hg hm ha hs) fun σ H R z => by
  obtain ⟨H0, HF, env, ts, fe, ft, ds, s, hp, k⟩ := z
  unfold pItR1 at hp
  split at hp
  · rename_i b kk j h1
    split at hp
    · rename_i hj
      cases hp
      refine ⟨H0, HF, env, ts, fe, ft, _, s, h1, fun H1 H01 us ft1 e0 e s1 rx => ?_⟩
      obtain ⟨ft2, s2⟩ := tmsOf_drop s1
      obtain ⟨u, r, rfl, rx, hr⟩ := rx
      cases (show r = [] from hr)
      have eu : u = .int j := rx.rf s1.sub
      subst eu
      exact ⟨j, rfl, (rngOk_iff hj).1, (rngOk_iff hj).2, k _ _ _ _ e0 e s2 (walks_rng 0 j.toNat)⟩
    · cases hp
  · cases hp
theorem pi0_rng2 {a b : Expr} {pp : Pos} (hg : Gl X "range") (hm : X.mg "range" = none) (ha : PA X [a, b] (tPA ps)) (hs : starEach [a, b] X.env = [(false, eval a X.env), (false, eval b X.env)] := by rfl) (hs2 : starEach [b] X.env = [(false, eval b X.env)] := by rfl) :
    PI X tg (.Call (.Name "range" pp) [a, b] [] pos) (tPI0 (pItR2 ps)) :=
  pi_mono (pi_range2 hg hm ha hs hs2) fun σ H R z => by
  obtain ⟨H0, HF, env, ts, fe, ft, ds, s, hp, k⟩ := z
  unfold pItR2 at hp
  split at hp
  · rename_i b kk i b' kk' j h1
    split at hp
    · rename_i hj
      rw [Bool.and_eq_true] at hj
      cases hp
      refine ⟨H0, HF, env, ts, fe, ft, _, s, h1, fun H1 H01 us ft1 e0 e s1 rx => ?_⟩
      obtain ⟨ft2, s2⟩ := tmsOf_drop s1
      obtain ⟨u, r, rfl, rx, u', r', rfl, rx', hr⟩ := rx
      cases (show r' = [] from hr)
      have eu : u = .int i := rx.rf s1.sub
      have eu' : u' = .int j := rx'.rf s1.sub
      subst eu eu'
      exact ⟨i, j, rfl, ⟨(rngOk_iff hj.1).1, (rngOk_iff hj.1).2, (rngOk_iff hj.2).1, (rngOk_iff hj.2).2⟩, k _ _ _ _ e0 e s2 (walks_rng i (j - i).toNat)⟩
    · cases hp
  · cases hp
end
def lc2Go (pt : Pat) (cond : Env → Option Bool) (it1 : Env → Option (List D)) (own1 : List Nat) (pt1 : Pat) (cond1 : Env → Option Bool) (elt : PX) (k : Kd) : List D → Env → Option (List D)
  | [], _ => some []
  | d :: ds, env => (bnd pt d env).bind fun e1 => (cond e1).bind fun b => if b = true then (it1 e1).bind fun ds1 => if ownZ own1 0 e1 = true then (cmpGo pt1 cond1 elt k ds1 (wipeE own1 0 e1)).bind fun r => (lc2Go pt cond it1 own1 pt1 cond1 elt k ds env).map fun r' => r ++ r' else none
      else lc2Go pt cond it1 own1 pt1 cond1 elt k ds env
/-- [elt for pt in it if cond for pt1 in it1 if cond1] -/
def pComp2 (own : List Nat) (it : Env → Option (List D)) (pt : Pat) (cond : Env → Option Bool) (own1 : List Nat) (it1 : Env → Option (List D)) (pt1 : Pat) (cond1 : Env → Option Bool) (k : Kd) (elt : PX) : PX := fun env =>
  (it env).bind fun ds => if ownZ own 0 env = true then (lc2Go pt cond it1 own1 pt1 cond1 elt k ds (wipeE own 0 env)).bind fun xs => if xs.length ≤ 100000 then some (false, .all k, .nd .lst xs) else none else none
theorem drop_cons {α : Type} {xs : List α} {i : Nat} {d : α} (hd : xs[i]? = some d) : xs.drop i = d :: xs.drop (i + 1) := by
  have hlt := (List.getElem?_eq_some_iff.mp hd).1
  rw [List.drop_eq_getElem_cons hlt]
  congr 1
  exact (List.getElem?_eq_some_iff.mp hd).2
theorem sh_comp2 {own own1 : List Nat} {it it1 : Env → Option (List D)} {pt pt1 : Pat} {cond cond1 : Env → Option Bool} {k : Kd} {elt : PX} (hsl : pt.slots.all own.contains = true) (hsl1 : pt1.slots.all own1.contains = true) :
    ShP (tLc2 (tPI it) (tG pt) (tPT cond) (tPI0 it1) (tG pt1) (tPT cond1) (tP elt) own own1) (pComp2 own it pt cond own1 it1 pt1 cond1 k elt) := by
  intro σ H Q z
  obtain ⟨H0, HF, env, ts, fe, ft, v, s, hp, kk⟩ := z
  simp only [pComp2, Option.bind_eq_some_iff] at hp
  obtain ⟨ds, hit, hp⟩ := hp
  split at hp
  case isFalse => cases hp
  rename_i hoz
  simp only [Option.bind_eq_some_iff] at hp
  obtain ⟨xs, hgo, hp⟩ := hp
  split at hp
  case isFalse => cases hp
  rename_i hlen
  cases hp
  refine ⟨H0, HF, env, ts, fe, ft, ds, s, hit, fun J H1 H01 ft1 e0 e s1 w D hD => ?_⟩
  have sw := s1.wiped (own := own) hoz
  have hslot : ∀ i, i ∈ pt.slots → own.contains i = true := List.all_eq_true.mp hsl
  have hslot1 : ∀ i, i ∈ pt1.slots → own1.contains i = true := List.all_eq_true.mp hsl1
  refine ⟨fun i m H' => m = ds.length - i ∧ i ≤ ds.length ∧ ∃ H0i acc rest fti, Ex H01 H0i ∧ Ex H1 H' ∧ S H0i HF H' (wipe σ own) (wipeE own 0 env) ((.all k, .nd .lst acc, .ref D) :: ts) fe fti ∧
    lc2Go pt cond it1 own1 pt1 cond1 elt k (ds.drop i) (wipeE own 0 env) = some rest ∧ acc ++ rest = xs, ⟨_, rfl, Nat.zero_le _, H01, [], xs, _, Ex.refl _, Ex.new hD,
      (sw.allocM (o := .lst []) hD trivial).pushO (cs := []) (p := D) (d := .nd .lst []) (k := .all k) (sw.sub.none hD) (sw.frm.none hD) (sw.free hD) (fun g hg =>
        (Rk.nd_iff rfl).mpr ⟨D, 0, [], fun _ => 0, rfl, by rw [if_neg (by decide)]; exact ⟨upd_same, fun x => by have := hg x; dsimp only; omega⟩, trivial, rfl, fun _ => rfl⟩), hgo, rfl⟩, ?_⟩
  rintro i m H' ⟨rfl, hi, H0i, acc, rest, fti, e0i, e1i, si, hgi, hacc⟩
  obtain ⟨w1, w2⟩ := w i H' e1i (e0i.trans si.sub)
  by_cases hlt : i < ds.length
  · obtain ⟨d, hd⟩ : ∃ d, ds[i]? = some d := ⟨ds[i], by simp [hlt]⟩
    obtain ⟨hgo', hy⟩ := w1 d hd
    refine .inr ⟨hgo', fun H' => ∃ H0i acc rest fti, Ex H01 H0i ∧ Ex H1 H' ∧ S H0i HF H' (wipe σ own) (wipeE own 0 env) ((.all k, .nd .lst acc, .ref D) :: ts) fe fti ∧
      lc2Go pt cond it1 own1 pt1 cond1 elt k (ds.drop (i + 1)) (wipeE own 0 env) = some rest ∧ acc ++ rest = xs, fun H'' q => ⟨ds.length - (i + 1), by omega, rfl, hlt, q⟩, fun x H'' y => ?_⟩
    rw [drop_cons hd] at hgi
    simp only [lc2Go, Option.bind_eq_some_iff] at hgi
    obtain ⟨env1, hb, b, hcd, hgi⟩ := hgi
    obtain ⟨H02, e02, e2, s2, r2⟩ := si.yield (by
      rcases hy x H'' y with ⟨a, b⟩ | ⟨p, vs, xs', a, b, c, dd, ee⟩
      · exact .inl ⟨a, b.mono e0i⟩
      · exact .inr ⟨p, vs, xs', a, b, c, dd, RfL.mono e0i ee⟩)
    refine ⟨H02, HF, _, _, fe, fti, d, env1, s2, r2, hb, fun σ2 fe2 ft2 s3 hσ hz => ?_⟩
    have hfe : fe2 = fe := bind_fe hslot hz
    subst hfe
    have hl2 : σ2.length = σ.length := by rw [s3.len, bnd_length hb, wipeE_length, s1.len]
    obtain ⟨hwipe, back⟩ := bind_back hslot s1.len hl2 hb hσ
    refine ⟨by rw [hwipe]; first | done | exact (wipe_eq (wipe_length _ _) fun j hj => wipe_get hj).symm, ?_⟩
    refine ⟨H02, HF, env1, _, fe2, ft2, b, s3, hcd, fun H3 H03 ft3 e03 e3 s4 => ?_⟩
    have eH : Ex H1 H3 := e1i.trans (e2.trans e3)
    have eH0 : Ex H01 H03 := e0i.trans (e02.trans e03)
    cases b with
    | false =>
      refine iteF ⟨H03, acc, rest, ft3, eH0, eH, back s4, ?_, hacc⟩
      rw [if_neg Bool.false_ne_true] at hgi
      exact hgi
    | true =>
      rw [if_pos rfl] at hgi
      simp only [Option.bind_eq_some_iff] at hgi
      obtain ⟨ds1, hit1, hgi⟩ := hgi
      split at hgi
      case isFalse => cases hgi
      rename_i hoz1
      simp only [Option.bind_eq_some_iff, Option.map_eq_some_iff] at hgi
      obtain ⟨r, hr, r', hr', hrr⟩ := hgi
      refine iteT ?_
      refine ⟨H03, HF, env1, _, fe2, ft3, ds1, s4, hit1, fun J1 H4 H04 ft4 e04 e4 s5 v1 => ?_⟩
      have sw1 := s5.wiped (own := own1) hoz1
      have re1 := s5.re
      refine ⟨fun j n H' => n = ds1.length - j ∧ j ≤ ds1.length ∧ ∃ H0j acc1 rest1 ftj, Ex H04 H0j ∧ Ex H1 H' ∧ (∀ x o, 1 ≤ fe2 x → H4 x = some o → H' x = some o) ∧ S H0j HF H' (wipe σ2 own1) (wipeE own1 0 env1) ((.all k, .nd .lst acc1, .ref D) :: ts) fe2 ftj ∧
        cmpGo pt1 cond1 elt k (ds1.drop j) (wipeE own1 0 env1) = some rest1 ∧ acc1 ++ rest1 = acc ++ r, ⟨_, rfl, Nat.zero_le _, H04, acc, r, _, Ex.refl _, eH.trans e4, fun x o _ q => q, sw1, hr, rfl⟩, ?_⟩
      rintro j n H' ⟨rfl, hj, H0j, acc1, rest1, ftj, e0j, eHj, e1j, sj, hgj, hacc1⟩
      obtain ⟨w1', w2'⟩ := v1 j H' (e0j.trans sj.sub) (e0j.trans sj.sub)
      have eH0j : Ex H01 H0j := eH0.trans (e04.trans e0j)
      by_cases hjt : j < ds1.length
      · obtain ⟨d1, hd1⟩ : ∃ d, ds1[j]? = some d := ⟨ds1[j], by simp [hjt]⟩
        obtain ⟨hgo1, hy1⟩ := w1' d1 hd1
        refine .inr ⟨hgo1, fun H' => ∃ H0j acc1 rest1 ftj, Ex H04 H0j ∧ Ex H1 H' ∧ (∀ x o, 1 ≤ fe2 x → H4 x = some o → H' x = some o) ∧ S H0j HF H' (wipe σ2 own1) (wipeE own1 0 env1) ((.all k, .nd .lst acc1, .ref D) :: ts) fe2 ftj ∧
          cmpGo pt1 cond1 elt k (ds1.drop (j + 1)) (wipeE own1 0 env1) = some rest1 ∧ acc1 ++ rest1 = acc ++ r, fun H'' q => ⟨ds1.length - (j + 1), by omega, rfl, hjt, q⟩, fun x1 H'' y1 => ?_⟩
        rw [drop_cons hd1] at hgj
        simp only [cmpGo, Option.bind_eq_some_iff] at hgj
        obtain ⟨env2, hb1, b1, hcd1, hgj⟩ := hgj
        obtain ⟨H05, e05, e5, s6, r6⟩ := sj.yield (by
          rcases hy1 x1 H'' y1 with ⟨a, b⟩ | ⟨p, vs, xs', a, b, c, dd, ee⟩
          · exact .inl ⟨a, b.mono e0j⟩
          · exact .inr ⟨p, vs, xs', a, b, c, dd, RfL.mono e0j ee⟩)
        refine ⟨H05, HF, _, _, fe2, ftj, d1, env2, s6, r6, hb1, fun σ3 fe3 ft5 s7 hσ3 hz3 => ?_⟩
        have hfe : fe3 = fe2 := bind_fe hslot1 hz3
        subst hfe
        have hl3 : σ3.length = σ2.length := by rw [s7.len, bnd_length hb1, wipeE_length, s4.len]
        obtain ⟨hwipe1, back1⟩ := bind_back hslot1 s4.len hl3 hb1 hσ3
        refine ⟨hwipe1, ?_⟩
        refine ⟨H05, HF, env2, _, fe3, ft5, b1, s7, hcd1, fun H6 H06 ft6 e06 e6 s8 => ?_⟩
        have eH6 : Ex H1 H6 := eHj.trans (e5.trans e6)
        have eH4 : ∀ x o, 1 ≤ fe3 x → H4 x = some o → H6 x = some o := fun x o h q => (e5.trans e6) _ _ (e1j x o h q)
        have eH04 : Ex H04 H06 := e0j.trans (e05.trans e06)
        cases b1 with
        | false =>
          refine iteF ⟨H06, acc1, rest1, ft6, eH04, eH6, eH4, back1 s8, ?_, hacc1⟩
          rw [if_neg Bool.false_ne_true] at hgj
          exact hgj
        | true =>
          rw [if_pos rfl] at hgj
          refine iteT ?_
          simp only [Option.bind_eq_some_iff] at hgj
          obtain ⟨⟨vb, vk, vd⟩, hel, hgj⟩ := hgj
          have hv : (!vb && Kd.beq vk k) = true := by
            cases q : (!vb && Kd.beq vk k) with
            | true => rfl
            | false => dsimp only at hgj; rw [q, if_neg Bool.false_ne_true] at hgj; cases hgj
          dsimp only at hgj
          rw [if_pos hv] at hgj
          simp only [Bool.and_eq_true, Bool.not_eq_true'] at hv
          obtain ⟨hv1, hv2⟩ := hv
          subst hv1
          have := Kd.beq_eq hv2
          subst this
          simp only [Option.map_eq_some_iff] at hgj
          obtain ⟨r1, hr1, hgj⟩ := hgj
          subst hgj
          refine ⟨H06, HF, env2, _, fe3, ft6, _, s8, hel, fun H7 H07 yv ft7 e07 e7 s9 rx => ?_⟩
          have s10 : S H07 HF H7 σ3 env2 ((vk, vd, yv) :: (.all vk, .nd .lst acc1, .ref D) :: ts) fe3 ft7 := s9
          have hfD := s10.tmpD'
          obtain ⟨vs, ft8, h1, h2, s11⟩ := s10.growT
          refine ⟨vs, h1, ?_, H07, acc1 ++ [vd], r1, ft8, eH04.trans e07, ?_, ?_, back1 s11, hr1, by rw [List.append_assoc]; exact hacc1⟩
          · rw [h2]
            have : xs.length = (acc1 ++ vd :: r1).length + r'.length := by rw [hacc1, ← hacc, ← hrr, ← List.length_append, List.append_assoc]
            rw [List.length_append, List.length_cons] at this
            exact Nat.lt_of_lt_of_le (by omega) (le_line hlen)
          · intro a o q
            have na : a ≠ D := fun z => by subst z; rw [hD] at q; cases q
            rw [upd_ne na]
            exact e7 _ _ (eH6 _ _ q)
          · intro a o hf q
            have na : a ≠ D := fun z => by subst z; omega
            rw [upd_ne na]
            exact e7 _ _ (eH4 _ _ hf q)
      · have hn : ds1[j]? = none := List.getElem?_eq_none_iff.mpr (by omega)
        refine .inl ⟨w2' hn, ?_⟩
        have hj' : j = ds1.length := by omega
        subst hj'
        rw [List.drop_length] at hgj
        cases hgj
        rw [List.append_nil] at hacc1
        subst hacc1
        have sb : S H0j HF H' σ2 env1 ((.all k, .nd .lst (acc ++ r), .ref D) :: ts) fe2 ftj := sj.env_back (re1.mono e0j fun x o h q => e1j x o h q)
        refine ⟨H0j, acc ++ r, r', ftj, eH0j, eHj, back sb, hr', ?_⟩
        rw [List.append_assoc, hrr]
        exact hacc
  · have hn : ds[i]? = none := List.getElem?_eq_none_iff.mpr (by omega)
    refine .inl ⟨w2 hn, ?_⟩
    have hi' : i = ds.length := by omega
    subst hi'
    rw [List.drop_length] at hgi
    cases hgi
    rw [List.append_nil] at hacc
    subst hacc
    have sb : S H0i HF H' σ env ((.all k, .nd .lst acc, .ref D) :: ts) fe fti := si.env_back (s1.re.mono e0i fun x o _ q => e1i x o q)
    exact kk H' H0i (.ref D) fti (e0.trans e0i) (e.trans e1i) sb (RV.ofTop (v := (false, .all k, .nd .lst acc)) rfl sb)
section
variable {X : Cx} {E : XK} {elt tg iter tg1 iter1 : Expr} {ifs ifs1 : List Expr} {scope : Scope} {own : List (Str × Nat)} {own1 : List Nat} {pos : Pos} {itv itv1 : Env → Option (List D)} {pt pt1 : Pat} {cond cond1 : Env → Option Bool} {k : Kd} {p : PX}
theorem pv_lc2 (hc : X.calm = true) (hN : X.N.Nodup) (hi : PI X tg iter (tPI itv)) (ok : BlkOk X.N X.env.scope scope own) (hv : ∀ i ∈ own1, i ∈ own.map (·.2))
    (hg : ∀ (s : Shared) (H : Hp) (C : Addr) (cl : List (Str × Addr)) (fp : List Addr), PG (X.blk s H scope (compEnvC scope cl C X.env) fp) tg (tG pt)) (ht : ∀ (s : Shared) (H : Hp) (C : Addr) (cl : List (Str × Addr)) (fp : List Addr), PTs (X.blk s H scope (compEnvC scope cl C X.env) fp) ifs (tPT cond))
    (hi1 : ∀ (s : Shared) (H : Hp) (C : Addr) (cl : List (Str × Addr)) (fp : List Addr), PI (X.blk s H scope (compEnvC scope cl C X.env) fp) tg1 iter1 (tPI0 itv1))
    (hg1 : ∀ (s : Shared) (H : Hp) (C : Addr) (cl : List (Str × Addr)) (fp : List Addr), PG (X.blk s H scope (compEnvC scope cl C X.env) fp) tg1 (tG pt1)) (ht1 : ∀ (s : Shared) (H : Hp) (C : Addr) (cl : List (Str × Addr)) (fp : List Addr), PTs (X.blk s H scope (compEnvC scope cl C X.env) fp) ifs1 (tPT cond1))
    (he : ∀ (s : Shared) (H : Hp) (C : Addr) (cl : List (Str × Addr)) (fp : List Addr), PE (X.blk s H scope (compEnvC scope cl C X.env) fp) elt (tP p)) (hsl : pt.slots.all (own.map (·.2)).contains = true := by rfl) (hsl1 : pt1.slots.all own1.contains = true := by rfl)
    (hs : ∀ x, foldedSetIterable iter X.env x = pure x := by intro _; rfl) (hs1 : ∀ env x, foldedSetIterable iter1 env x = pure x := by intro _ _; rfl) :
    PE X (.ListComp elt [⟨tg, iter, ifs, 0⟩, ⟨tg1, iter1, ifs1, 0⟩] scope pos) (tP (pComp2 (own.map (·.2)) itv pt cond own1 itv1 pt1 cond1 k p)) :=
  pe_mono (pe_lc2 hc hN hi ok hv hg ht hi1 hg1 ht1 he hs hs1) fun _ _ _ z => sh_comp2 hsl hsl1 z
theorem st_asgLc2 {pd : List Nat} {i : Nat} {fz : Bool} {st : Stmt} {own2 : List Nat} (h : PS X st (tAsg (tLc2 (tPI itv) (tG pt) (tPT cond) (tPI0 itv1) (tG pt1) (tPT cond1) (tP p) own2 own1) (gName i))) (hsl : pt.slots.all own2.contains = true := by rfl) (hsl1 : pt1.slots.all own1.contains = true := by rfl) (hp : pd.contains i = false := by rfl) :
    PS X st (tS E pd (asgS i fz (mP (pComp2 own2 itv pt cond own1 itv1 pt1 cond1 k p)))) := ps_mono h fun _ _ _ z => sh_asg (fun q => sh_comp2 hsl hsl1 (sh_mP q)) hp z
end
end Vt

set_option Elab.async false
set_option linter.all false
set_option autoImplicit false
set_option maxRecDepth 100000
set_option maxHeartbeats 1000000
/-! Vt18: operators of more than one type; a def that is not called. -/
namespace Vt
open PySem L2
def rOr (r r' : R2) : R2 := fun x y H Q => r x y H Q ∨ r' x y H Q
theorem opOr {X : Cx} {op : Value → Value → Sem Value} {r r' : R2} (h : OpR X op r) (h' : OpR X op r') : OpR X op (rOr r r') := by
  intro pins s σ H x y v u Q I rx ry q
  rcases q with q | q
  · exact h pins s σ H x y v u Q I rx ry q
  · exact h' pins s σ H x y v u Q I rx ry q
def gOr (g g' : Pv → Pv → Option Pv) : Pv → Pv → Option Pv
  | (a, k, .int i), y => g (a, k, .int i) y
  | x, y => g' x y
theorem ok_or {g g' : Pv → Pv → Option Pv} {r r' : R2} (h : PrOk (g2 g) (r2 r)) (h' : PrOk (g2 g') (r2 r')) : PrOk (g2 (gOr g g')) (r2 (rOr r r')) := by
  refine prOk2 fun {H0 HF H σ env ts fe ft a b v x y Q} s rx ry e k => ?_
  unfold gOr at e
  split at e
  · obtain ⟨x', y', hxy, q⟩ := h.ok (vs := [_, b]) (us := [x, y]) s ⟨x, [y], rfl, rx, y, [], rfl, ry, rfl⟩ e Q k
    cases hxy
    exact .inl q
  · obtain ⟨x', y', hxy, q⟩ := h'.ok (vs := [a, b]) (us := [x, y]) s ⟨x, [y], rfl, rx, y, [], rfl, ry, rfl⟩ e Q k
    cases hxy
    exact .inr q
abbrev gAdd2 := gOr gAdd gCat
theorem ok_add2 : PrOk (g2 gAdd2) (r2 (rOr (rI0 fun i j => .int (i + j)) rCat)) := ok_or ok_add ok_cat
theorem op_add2 {X : Cx} : OpR X (binaryOp .Add) (rOr (rI0 fun i j => .int (i + j)) rCat) := opOr op_add op_cat
abbrev gMul2 := gOr gMul gRep
theorem ok_mul2 : PrOk (g2 gMul2) (r2 (rOr (rI CMulX fun i j => .int (i * j)) rRep)) := ok_or ok_mul ok_rep
theorem op_mul2 {X : Cx} : OpR X (binaryOp .Mult) (rOr (rI CMulX fun i j => .int (i * j)) rRep) := opOr op_mulX op_rep
/-- a def that is never called: at the end of a recursion's fuel -/
def badF : Fn := fun _ => .bad
theorem FnOk.bad {P : Program} {w : World} {K : PySem.W.Frag} {mg : Str → Option Value} {base : Heap} {CX : CXT} {k : Nat} {f : Addr} {fd : FuncData} {ps : List Str} {md : Md} : FnOk P w K mg base CX k f fd ps (spF md badF) :=
  ⟨fun vs H Q E h => by obtain ⟨_, _, _, _, _, _, _, q⟩ := h; exact q.elim, fun A outer s H args us vs Q E _ _ _ _ h => by obtain ⟨_, _, _, _, _, _, _, q⟩ := h; exact q.elim⟩
section
variable {X : Cx} {a b c : Expr} {pos : Pos} {p q w : PX} {E : XK}
theorem pv_tup' {es : List Expr} {x1 : Nat} {ps : Env → Option (List Pv)} (h : PA X es (tPA ps)) : PE X (.Tuple es x1 pos) (tP (pOpN gTup ps)) := pe_mono (pe_tup h) fun _ _ _ z => sh_tup z
theorem ptv_chain {op op' : CmpOp} {r r' : R2} {g g' : Pv → Pv → Option Pv} (ho : OpR X (compareOp op) r) (h : PrOk (g2 g) (r2 r)) (ho' : OpR X (compareOp op') r') (h' : PrOk (g2 g') (r2 r')) (ha : PE X a (tP p)) (hb : PE X b (tP q)) (hc : PE X c (tP w)) (hm : lastMarks [op, op'] [b, c] = false := by with_unfolding_all rfl) :
    PT X (.Compare a [op, op'] [b, c] pos) (tPT (pTst (pChain g g' p q w))) := pt_mono (pt_chain ho ho' ha hb hc hm) fun σ H Q z => by
  obtain ⟨H0, HF, env, ts, fe, ft, k, s, hp, kk⟩ := z
  unfold pTst at hp
  split at hp
  · rename_i bb kd b' hv
    cases hp
    exact sh_chain h h' ⟨H0, HF, env, ts, fe, ft, _, s, hv, fun H1 H01 x ft1 e0 e s1 rx => ⟨_, rx.rf s1.sub, by
      obtain ⟨ft2, s2⟩ := s1.popP
      exact kk _ _ _ e0 e s2⟩⟩
  · cases hp
end
end Vt

set_option Elab.async false
set_option linter.all false
set_option autoImplicit false
set_option maxRecDepth 100000
set_option maxHeartbeats 1000000
/-! Vt19: list displays whose items are owned. -/
namespace Vt
open PySem L2
section
variable {H0 HF H H0' H' : Hp} {σ : L2.St} {env : Env} {ts : List Tm} {fe ft : Fp} {E : XK}
def mLstK (k : Kd) (ms : MX (List Mv)) : MX Mv := fun env => match ms env with
  | .ok vs e => if (vs.all (fun v => Kd.beq v.1 k) && decide (vs.length ≤ 100000)) = true then .ok (.all k, .nd .lst (vs.map (·.2))) e else .bad
  | .exc C x e => .exc C x e
  | .bad => .bad
theorem zipT_cT {k : Kd} : ∀ {vs : List Mv} {us : List V}, vs.all (fun v => Kd.beq v.1 k) = true → zipT vs us = cT k (vs.map (·.2)) us
  | [], us, _ => by cases us <;> rfl
  | v :: vs, [], _ => rfl
  | (k', d) :: vs, u :: us, h => by
    simp only [List.all_cons, Bool.and_eq_true] at h
    have := Kd.beq_eq h.1
    subst this
    simp only [zipT, List.map_cons, cT]
    rw [zipT_cT h.2]
theorem sh_mLstK {k : Kd} {ms : MX (List Mv)} : ShM E (tLst (tMA E ms)) (mLstK k ms) := by
  intro σ H Q z
  obtain ⟨H0, HF, env, ts, fe, ft, s, kk⟩ := tM_in z
  refine tMA_out (H0 := H0) s ?_
  unfold mLstK at kk
  cases hm : ms env with
  | exc C x e => rw [hm] at kk; exact kk
  | bad => rw [hm] at kk; exact kk
  | ok vs e =>
    rw [hm] at kk
    dsimp only at kk
    split at kk
    case isFalse => exact kk.elim
    rename_i hc
    rw [Bool.and_eq_true] at hc
    intro H1 H01 us fe1 ft1 e0 hl s1
    refine ⟨by rw [hl]; exact le_line (of_decide_eq_true hc.2), fun p hp => ?_⟩
    rw [zipT_cT hc.1] at s1
    have s2 := s1.allocM (o := .lst us) hp trivial
    have s3 := s2.pushO (cs := cT k (vs.map (·.2)) us) (p := p) (d := .nd .lst (vs.map (·.2))) (k := .all k) (s1.sub.none hp) (s1.frm.none hp) (s1.free hp) fun g hg =>
      (Rk.nd_iff rfl).mpr ⟨p, 0, us, g, rfl, by rw [if_neg (by decide)]; exact ⟨upd_same, fun _ => rfl⟩, trivial, RkL.toT.mpr ⟨by rw [List.length_map]; exact hl, hg⟩⟩
    exact kk.ok e0 s3
theorem em_lstK {X : Cx} {es : List Expr} {pos : Pos} {ms : MX (List Mv)} (k : Kd) (h : PA X es (tMA E ms)) : PE X (.List es pos) (tM E (mLstK k ms)) := pe_mono (pe_lst h) fun _ _ _ z => sh_mLstK z
end
end Vt

set_option Elab.async false
set_option linter.all false
set_option autoImplicit false
set_option maxRecDepth 100000
set_option maxHeartbeats 1000000
/-! Vt20: how denotations are evaluated: the layer's own defs unfolded by simp (printed by mkevl.py). -/
namespace Vt
open PySem L2
@[simp] theorem e_seqS (m n : SX) (env : Env) : seqS m n env = (match m env with
  | .nx e => n e
  | r => r) := (rfl)
@[simp] theorem e_passS  (env : Env) : passS  env = (.nx env) := (rfl)
@[simp] theorem e_breakS  (env : Env) : breakS  env = (.bk env) := (rfl)
@[simp] theorem e_contS  (env : Env) : contS  env = (.ct env) := (rfl)
@[simp] theorem e_neverS  (env : Env) : neverS  env = (.bad) := (rfl)
@[simp] theorem e_asgS (i : Nat) (fz : Bool) (m : MX Mv) (env : Env) : asgS i fz m env = (match m env with
  | .ok v e => .nx (e.put i (.val (fzK fz v.1) v.2))
  | .exc C x e => .exc C x e
  | .bad => .bad) := (rfl)
@[simp] theorem e_asgP (pt : Pat) (m : MX Mv) (env : Env) : asgP pt m env = (match m env with
  | .ok v e => match bnd pt v.2 e with
    | some e' => .nx e'
    | none => .bad
  | .exc C x e => .exc C x e
  | .bad => .bad) := (rfl)
@[simp] theorem e_augS (i : Nat) (f : Int → Int → Int) (ok : Int → Int → Bool) (m : MX Mv) (env : Env) : augS i f ok m env = (match env[i]? with
  | some (.val .z (.int a)) => match m env with
    | .ok (_, .int b) e => if ok a b = true then .nx (e.put i (.val .z (.int (f a b)))) else .bad
    | .ok _ _ => .bad
    | .exc C x e => .exc C x e
    | .bad => .bad
  | _ => .bad) := (rfl)
@[simp] theorem e_exS (m : MX Mv) (env : Env) : exS m env = (match m env with
  | .ok _ e => .nx e
  | .exc C x e => .exc C x e
  | .bad => .bad) := (rfl)
@[simp] theorem e_rtS (fz : Bool) (m : MX Mv) (env : Env) : rtS fz m env = (match m env with
  | .ok v e => .rt (fzK fz v.1, v.2) e
  | .exc C x e => .exc C x e
  | .bad => .bad) := (rfl)
@[simp] theorem e_rtN  (env : Env) : rtN  env = (.rt (.z, .non) env) := (rfl)
@[simp] theorem e_ifS (t : MX Bool) (a b : SX) (env : Env) : ifS t a b env = (match t env with
  | .ok true e => a e
  | .ok false e => b e
  | .exc C x e => .exc C x e
  | .bad => .bad) := (rfl)
@[simp] theorem e_forS (pt : Pat) (it : MX (List Vt.D)) (body : SX) (env : Env) : forS pt it body env = (match it env with
  | .ok ds e => forGo pt body ds e
  | .exc C x e => .exc C x e
  | .bad => .bad) := (rfl)
@[simp] theorem e_mP (p : PX) (env : Env) : mP p env = (match p env with
  | some (false, k, d) => .ok (k, d) env
  | _ => .bad) := (rfl)
@[simp] theorem e_mMov (i : Nat) (env : Env) : mMov i env = (match env[i]? with
  | some (.val _ d) => .ok (.z, d) (env.put i (.val .z d))
  | _ => .bad) := (rfl)
@[simp] theorem e_mTak (i : Nat) (env : Env) : mTak i env = (match env[i]? with
  | some (.val k d) => .ok (k, d) (env.put i .un)
  | _ => .bad) := (rfl)
@[simp] theorem e_mFz (m : MX Mv) (env : Env) : mFz m env = (match m env with
  | .ok (_, d) e => .ok (.z, d) e
  | r => r) := (rfl)
@[simp] theorem e_mOp1 (g : Pv → Option Pv) (m : MX Mv) (env : Env) : mOp1 g m env = (match m env with
  | .ok v e => match g (asP v) with
    | some (false, k, d) => .ok (k, d) e
    | _ => .bad
  | .exc C x e => .exc C x e
  | .bad => .bad) := (rfl)
@[simp] theorem e_mOp2 (g : Pv → Pv → Option Pv) (m n : MX Mv) (env : Env) : mOp2 g m n env = (match m env with
  | .ok v e => match n e with
    | .ok w e' => match g (asP v) (asP w) with
      | some (false, k, d) => .ok (k, d) e'
      | _ => .bad
    | .exc C x e' => .exc C x e'
    | .bad => .bad
  | .exc C x e => .exc C x e
  | .bad => .bad) := (rfl)
@[simp] theorem e_mNil  (env : Env) : mNil  env = (.ok [] env) := (rfl)
@[simp] theorem e_mCons (m : MX Mv) (ms : MX (List Mv)) (env : Env) : mCons m ms env = (match m env with
  | .ok v e => match ms e with
    | .ok vs e' => .ok (v :: vs) e'
    | .exc C x e' => .exc C x e'
    | .bad => .bad
  | .exc C x e => .exc C x e
  | .bad => .bad) := (rfl)
@[simp] theorem e_mOpN (g : List Pv → Option Pv) (ms : MX (List Mv)) (env : Env) : mOpN g ms env = (match ms env with
  | .ok vs e => match g (vs.map asP) with
    | some (false, k, d) => .ok (k, d) e
    | _ => .bad
  | .exc C x e => .exc C x e
  | .bad => .bad) := (rfl)
@[simp] theorem e_mtP (p : Env → Option Bool) (env : Env) : mtP p env = (match p env with
  | some b => .ok b env
  | none => .bad) := (rfl)
@[simp] theorem e_mtTru (m : MX Mv) (env : Env) : mtTru m env = (match m env with
  | .ok v e => match gTru (asP v) with
    | some b => .ok b e
    | none => .bad
  | .exc C x e => .exc C x e
  | .bad => .bad) := (rfl)
@[simp] theorem e_mtTst (m : MX Mv) (env : Env) : mtTst m env = (match m env with
  | .ok (_, .bl b) e => .ok b e
  | .ok _ _ => .bad
  | .exc C x e => .exc C x e
  | .bad => .bad) := (rfl)
@[simp] theorem e_mAnd (m n : MX Bool) (env : Env) : mAnd m n env = (match m env with
  | .ok true e => n e
  | r => r) := (rfl)
@[simp] theorem e_mOr (m n : MX Bool) (env : Env) : mOr m n env = (match m env with
  | .ok false e => n e
  | r => r) := (rfl)
@[simp] theorem e_mNot (m : MX Bool) (env : Env) : mNot m env = (match m env with
  | .ok b e => .ok (!b) e
  | r => r) := (rfl)
@[simp] theorem e_mAndV (m n : MX Mv) (env : Env) : mAndV m n env = (match m env with
  | .ok (_, .bl true) e => n e
  | .ok (_, .bl false) e => .ok (.z, .bl false) e
  | .ok _ _ => .bad
  | r => r) := (rfl)
@[simp] theorem e_mOrV (m n : MX Mv) (env : Env) : mOrV m n env = (match m env with
  | .ok (_, .bl true) e => .ok (.z, .bl true) e
  | .ok (_, .bl false) e => n e
  | .ok _ _ => .bad
  | r => r) := (rfl)
@[simp] theorem e_mNotV (m : MX Mv) (env : Env) : mNotV m env = (match m env with
  | .ok (_, .bl b) e => .ok (.z, .bl (!b)) e
  | .ok _ _ => .bad
  | r => r) := (rfl)
@[simp] theorem e_mIf (t : MX Bool) (m n : MX Mv) (env : Env) : mIf t m n env = (match t env with
  | .ok true e => m e
  | .ok false e => n e
  | .exc C x e => .exc C x e
  | .bad => .bad) := (rfl)
@[simp] theorem e_pC (d : D) (env : Env) : pC d env = (some (false, .z, d)) := (rfl)
@[simp] theorem e_pVar (i : Nat) (env : Env) : pVar i env = (match env[i]? with
  | some (.val k d) => some (!k.isZ, k, d)
  | _ => none) := (rfl)
@[simp] theorem e_pOp1 (g : Pv → Option Pv) (p : PX) (env : Env) : pOp1 g p env = ((p env).bind g) := (rfl)
@[simp] theorem e_pOp2 (g : Pv → Pv → Option Pv) (p q : PX) (env : Env) : pOp2 g p q env = ((p env).bind fun a => (q env).bind fun b => g a b) := (rfl)
@[simp] theorem e_pOpN (g : List Pv → Option Pv) (p : Env → Option (List Pv)) (env : Env) : pOpN g p env = ((p env).bind g) := (rfl)
@[simp] theorem e_pNil  (env : Env) : pNil  env = (some []) := (rfl)
@[simp] theorem e_pCons (p : PX) (ps : Env → Option (List Pv)) (env : Env) : pCons p ps env = ((p env).bind fun a => (ps env).bind fun as => some (a :: as)) := (rfl)
@[simp] theorem e_pAnd (p q : Env → Option Bool) (env : Env) : pAnd p q env = (match p env with
  | some true => q env
  | some false => some false
  | none => none) := (rfl)
@[simp] theorem e_pOr (p q : Env → Option Bool) (env : Env) : pOr p q env = (match p env with
  | some true => some true
  | some false => q env
  | none => none) := (rfl)
@[simp] theorem e_pNot (p : Env → Option Bool) (env : Env) : pNot p env = ((p env).map (!·)) := (rfl)
@[simp] theorem e_pTst (p : PX) (env : Env) : pTst p env = (match p env with
  | some (_, _, .bl b) => some b
  | _ => none) := (rfl)
@[simp] theorem e_pTru (p : PX) (env : Env) : pTru p env = ((p env).bind gTru) := (rfl)
@[simp] theorem e_pIf (t : Env → Option Bool) (p q : PX) (env : Env) : pIf t p q env = (match t env with
  | some true => p env
  | some false => q env
  | none => none) := (rfl)
@[simp] theorem e_pAndV (p q : PX) (env : Env) : pAndV p q env = (match p env with
  | some (_, _, .bl true) => q env
  | some (_, _, .bl false) => ret (.bl false)
  | _ => none) := (rfl)
@[simp] theorem e_pOrV (p q : PX) (env : Env) : pOrV p q env = (match p env with
  | some (_, _, .bl true) => ret (.bl true)
  | some (_, _, .bl false) => q env
  | _ => none) := (rfl)
@[simp] theorem e_pNotV (p : PX) (env : Env) : pNotV p env = (match p env with
  | some (_, _, .bl b) => ret (.bl (!b))
  | _ => none) := (rfl)
@[simp] theorem e_pFz (p : PX) (env : Env) : pFz p env = (match p env with
  | some (false, _, d) => ret d
  | _ => none) := (rfl)
@[simp] theorem e_pChain (g g' : Pv → Pv → Option Pv) (p q w : PX) (env : Env) : pChain g g' p q w env = (match p env, q env with
  | some x, some y => match g x y with
    | some (_, _, .bl true) => (w env).bind fun z => g' y z
    | some (_, _, .bl false) => ret (.bl false)
    | _ => none
  | _, _ => none) := (rfl)
@[simp] theorem e_callM (md : Md) (F : Fn) (as : List Ag) (env : Env) : callM md F as env = (match evA as env with
  | .ok vs e => resC md F as vs e
  | .exc C x e => .exc C x e
  | .bad => .bad) := (rfl)
@[simp] theorem e_callK (md : Md) (F : Fn) (as : List Ag) (π : List Nat) (env : Env) : callK md F as π env = (match evA as env with
  | .ok vs e => resC md F (permL π as) (permL π vs) e
  | .exc C x e => .exc C x e
  | .bad => .bad) := (rfl)
@[simp] theorem e_mItL (m : MX Mv) (env : Env) : mItL m env = (match m env with
  | .ok v e => match v.2.lstOf with
    | some xs => .ok xs e
    | none => .bad
  | .exc C x e => .exc C x e
  | .bad => .bad) := (rfl)
@[simp] theorem e_mItR1 (ms : MX (List Mv)) (env : Env) : mItR1 ms env = (match ms env with
  | .ok [(_, .int j)] e => if rngOk j = true then .ok (rngD 0 j.toNat) e else .bad
  | .ok _ _ => .bad
  | .exc C x e => .exc C x e
  | .bad => .bad) := (rfl)
@[simp] theorem e_mItR2 (ms : MX (List Mv)) (env : Env) : mItR2 ms env = (match ms env with
  | .ok [(_, .int i), (_, .int j)] e => if (rngOk i && rngOk j) = true then .ok (rngD i (j - i).toNat) e else .bad
  | .ok _ _ => .bad
  | .exc C x e => .exc C x e
  | .bad => .bad) := (rfl)
@[simp] theorem e_mItR3 (ms : MX (List Mv)) (env : Env) : mItR3 ms env = (match ms env with
  | .ok [(_, .int i), (_, .int j), (_, .int c)] e => if (rngOk i && rngOk j && decide (c = -1)) = true then .ok (rngC i (-1) (i - j).toNat) e else .bad
  | .ok _ _ => .bad
  | .exc C x e => .exc C x e
  | .bad => .bad) := (rfl)
@[simp] theorem e_mItE (ms : MX (List Mv)) (env : Env) : mItE ms env = (match ms env with
  | .ok [v] e => match v.2.lstOf with
    | some xs => .ok (enumD 0 xs) e
    | none => .bad
  | .ok _ _ => .bad
  | .exc C x e => .exc C x e
  | .bad => .bad) := (rfl)
@[simp] theorem e_mItZ (ms : MX (List Mv)) (env : Env) : mItZ ms env = (match ms env with
  | .ok [v, w] e => match v.2.lstOf, w.2.lstOf with
    | some xs, some ys => .ok (zipD xs ys) e
    | _, _ => .bad
  | .ok _ _ => .bad
  | .exc C x e => .exc C x e
  | .bad => .bad) := (rfl)
@[simp] theorem e_pItL (p : PX) (env : Env) : pItL p env = (match p env with
  | some (_, k, d) => match d.lstOf with
    | some xs => if k.zs xs.length then some xs else none
    | none => none
  | none => none) := (rfl)
@[simp] theorem e_pItL0 (p : PX) (env : Env) : pItL0 p env = (match p env with
  | some (_, .z, d) => d.lstOf
  | _ => none) := (rfl)
@[simp] theorem e_pItR1 (ps : Env → Option (List Pv)) (env : Env) : pItR1 ps env = (match ps env with
  | some [(_, _, .int j)] => if rngOk j then some (rngD 0 j.toNat) else none
  | _ => none) := (rfl)
@[simp] theorem e_pItR2 (ps : Env → Option (List Pv)) (env : Env) : pItR2 ps env = (match ps env with
  | some [(_, _, .int i), (_, _, .int j)] => if rngOk i && rngOk j then some (rngD i (j - i).toNat) else none
  | _ => none) := (rfl)
@[simp] theorem e_pItE (ps : Env → Option (List Pv)) (env : Env) : pItE ps env = (match ps env with
  | some [(_, k, d)] => match d.lstOf with
    | some xs => if k.zs xs.length then some (enumD 0 xs) else none
    | none => none
  | _ => none) := (rfl)
@[simp] theorem e_pItZ (ps : Env → Option (List Pv)) (env : Env) : pItZ ps env = (match ps env with
  | some [(_, k, d), (_, k', d')] => match d.lstOf, d'.lstOf with
    | some xs, some ys => if k.zs xs.length && k'.zs ys.length then some (zipD xs ys) else none
    | _, _ => none
  | _ => none) := (rfl)
@[simp] theorem e_pPart (p : PX) (env : Env) : pPart p env = (match p env with
  | some (_, _, .int i) => some (some i)
  | _ => none) := (rfl)
@[simp] theorem e_pNoPart  (env : Env) : pNoPart  env = (some none) := (rfl)
@[simp] theorem e_pSlice (p : PX) (l h : Env → Option (Option Int)) (env : Env) : pSlice p l h env = (match p env, l env, h env with
  | some (_, k, .nd s xs), some lo, some hi => match s with
    | .lst => if k.zs xs.length then zlist (cutD xs lo hi) else none
    | .scr => if k.zs xs.length then zlist (cutD xs lo hi) else none
    | _ => none
  | _, _, _ => none) := (rfl)
@[simp] theorem e_pYes  (env : Env) : pYes  env = (some true) := (rfl)
@[simp] theorem e_setR (i : Nat) (q : PX) (m : MX Mv) (env : Env) : setR i q m env = (match m env with
  | .ok v e => match q e, e[i]? with
    | some (_, _, .int j), some (.val k (.nd .lst xs)) => match ixN xs.length j with
      | some n => if (!k.isZ && Kd.beq v.1 (k.kid n)) = true then .nx (e.put i (.val k (.nd .lst (xs.set n v.2)))) else .bad
      | none => .bad
    | _, _ => .bad
  | .exc C x e => .exc C x e
  | .bad => .bad) := (rfl)
@[simp] theorem e_mutR (i : Nat) (g : Kd → D → List Mv → Option (D × Mv)) (ms : MX (List Mv)) (env : Env) : mutR i g ms env = (match env[i]? with
  | some (.val _ (.nd .lst _)) => match ms env with
    | .ok vs e => match e[i]? with
      | some (.val k (.nd .lst xs)) => if k.isZ = true then .bad else match g k (.nd .lst xs) vs with
        | some (d', v) => .ok v (e.put i (.val k d'))
        | none => .bad
      | _ => .bad
    | .exc C x e => .exc C x e
    | .bad => .bad
  | _ => .bad) := (rfl)
@[simp] theorem e_mutP (i : Nat) (q : Env → Option (List Nat)) (g : Kd → D → List Mv → Option (D × Mv)) (ps : Env → Option (List Pv)) (env : Env) : mutP i q g ps env = (match q env, env[i]?, ps env with
  | some π, some (.val k d), some vs => match subAt d k π, mvs vs with
    | some (k1, .nd .lst xs), some ws => if k1.isZ = true then .bad else match g k1 (.nd .lst xs) ws with
      | some (d1, v) => .ok v (env.put i (.val k (updD d π d1)))
      | none => .bad
    | _, _ => .bad
  | _, _, _ => .bad) := (rfl)
@[simp] theorem e_pthR  (env : Env) : pthR  env = (some []) := (rfl)
@[simp] theorem e_pthIx (i : Nat) (q : Env → Option (List Nat)) (p : PX) (env : Env) : pthIx i q p env = (match q env, p env, env[i]? with
  | some π, some (_, _, .int j), some (.val k d) => match subAt d k π with
    | some (k1, .nd .lst xs) => if k1.isZ = true then none else (ixN xs.length j).bind fun n => if n < xs.length then some (π ++ [n]) else none
    | _ => none
  | _, _, _ => none) := (rfl)
@[simp] theorem e_mLstK (k : Kd) (ms : MX (List Mv)) (env : Env) : mLstK k ms env = (match ms env with
  | .ok vs e => if (vs.all (fun v => Kd.beq v.1 k) && decide (vs.length ≤ 100000)) = true then .ok (.all k, .nd .lst (vs.map (·.2))) e else .bad
  | .exc C x e => .exc C x e
  | .bad => .bad) := (rfl)
@[simp] theorem e_pComp (own : List Nat) (it : Env → Option (List D)) (pt : Pat) (cond : Env → Option Bool) (k : Kd) (elt : PX) (env : Env) : pComp own it pt cond k elt env = ((it env).bind fun ds => if (decide (ds.length ≤ 100000) && ownZ own 0 env) = true then (cmpGo pt cond elt k ds (wipeE own 0 env)).map fun xs => (false, .all k, .nd .lst xs) else none) := (rfl)
@[simp] theorem e_pComp2 (own : List Nat) (it : Env → Option (List D)) (pt : Pat) (cond : Env → Option Bool) (own1 : List Nat) (it1 : Env → Option (List D)) (pt1 : Pat) (cond1 : Env → Option Bool) (k : Kd) (elt : PX) (env : Env) : pComp2 own it pt cond own1 it1 pt1 cond1 k elt env = ((it env).bind fun ds => if ownZ own 0 env = true then (lc2Go pt cond it1 own1 pt1 cond1 elt k ds (wipeE own 0 env)).bind fun xs => if xs.length ≤ 100000 then some (false, .all k, .nd .lst xs) else none else none) := (rfl)
@[simp] theorem e_mComp (own : List Nat) (it : MX (List D)) (pt : Pat) (cond : MX Bool) (k : Kd) (elt : MX Mv) (env : Env) : mComp own it pt cond k elt env = (match it env with
  | .ok ds e => if (decide (ds.length ≤ 100000) && ownZ own 0 e) = true then match mcGo own pt cond elt k ds (wipeE own 0 e) with
      | .ok xs e' => .ok (.all k, .nd .lst xs) (restE own 0 e e')
      | _ => .bad
    else .bad
  | .exc C x e => .exc C x e
  | .bad => .bad) := (rfl)
section
variable {m : MX Mv} {as : List Ag} {env : Env} {i : Nat} {md : Md} {F : Fn} {vs : List (Option Mv)} {k : Kd} {ks : List Kd} {d : D} {ds ms : List D} {v : Mv} {fz : Bool} {o : Option Kd} {x : Ag}
@[simp] theorem e_evA0 : evA [] env = .ok [] env := (rfl)
@[simp] theorem e_evAe : evA (.e m :: as) env = (match m env with
    | .ok v e => match evA as e with
      | .ok vs e' => .ok (some v :: vs) e'
      | .exc C x e' => .exc C x e'
      | .bad => .bad
    | .exc C x e => .exc C x e
    | .bad => .bad) := by rw [evA]; all_goals (cases m env with
    | ok v e => dsimp only; cases evA as e <;> rfl
    | exc C x e => rfl
    | bad => rfl)
@[simp] theorem e_evAv : evA (.v i :: as) env = (match env[i]? with
    | some (.val _ _) => match evA as env with
      | .ok vs e' => .ok (none :: vs) e'
      | .exc C x e' => .exc C x e'
      | .bad => .bad
    | _ => .bad) := by rw [evA]; all_goals (cases env[i]? with
    | none => rfl
    | some s => cases s with
      | un => rfl
      | val k d => dsimp only; cases evA as env <;> rfl)
@[simp] theorem e_evAm : evA (.m i :: as) env = (match env[i]? with
    | some (.val _ _) => match evA as env with
      | .ok vs e' => .ok (none :: vs) e'
      | .exc C x e' => .exc C x e'
      | .bad => .bad
    | _ => .bad) := by rw [evA]; all_goals (cases env[i]? with
    | none => rfl
    | some s => cases s with
      | un => rfl
      | val k d => dsimp only; cases evA as env <;> rfl)
@[simp] theorem e_gath0 : gath [] [] [] env = some ([], [], env) := (rfl)
@[simp] theorem e_gathe : gath (o :: md) (.e m :: as) (some v :: vs) env = (gath md as vs env).bind fun r => some (v.1 :: r.1, v.2 :: r.2.1, r.2.2) := by rw [gath]
@[simp] theorem e_gathv : gath (o :: md) (.v i :: as) (none :: vs) env = (match env[i]? with
    | some (.val k d) => if k.isZ = true then (gath md as vs env).bind fun r => some (.z :: r.1, d :: r.2.1, r.2.2) else (gath md as vs (env.put i .un)).bind fun r => some (k :: r.1, d :: r.2.1, r.2.2)
    | _ => none) := by rw [gath]; all_goals (cases env[i]? with
    | none => rfl
    | some s => cases s <;> rfl)
@[simp] theorem e_gathm : gath (o :: md) (.m i :: as) (none :: vs) env = (match env[i]? with
    | some (.val k d) => (gath md as vs (env.put i .un)).bind fun r => some (k :: r.1, d :: r.2.1, r.2.2)
    | _ => none) := by rw [gath]; all_goals (cases env[i]? with
    | none => rfl
    | some s => cases s <;> rfl)
@[simp] theorem e_mdOk0 : mdOk [] [] = true := (rfl)
@[simp] theorem e_isZ : Kd.isZ .z = true := (rfl)
@[simp] theorem e_isZa : Kd.isZ (.all k) = false := (rfl)
@[simp] theorem e_kida {n : Nat} : Kd.kid (.all k) n = k := (rfl)
@[simp] theorem e_kidz {n : Nat} : Kd.kid .z n = .z := (rfl)
@[simp] theorem e_zsz {n : Nat} : Kd.zs .z n = true := (rfl)
@[simp] theorem e_zsa {n : Nat} : Kd.zs (.all .z) n = true := (rfl)
@[simp] theorem e_put {s : Sl} : Env.put env i s = List.set env i s := (rfl)
@[simp] theorem e_fzT : fzK true k = .z := (rfl)
@[simp] theorem e_fzF : fzK false k = k := (rfl)
@[simp] theorem e_asP : asP v = (false, v.1, v.2) := (rfl)
@[simp] theorem e_bndnm : bnd (.nm i) d env = some (env.put i (.val .z d)) := by rw [bnd]
@[simp] theorem e_bndtp {ps : List Pat} : bnd (.tp ps) (.nd .tup ds) env = bnds ps ds env := by rw [bnd]
@[simp] theorem e_bnds0 : bnds [] [] env = some env := by rw [bnds]
@[simp] theorem e_bnds1 {p : Pat} {ps : List Pat} : bnds (p :: ps) (d :: ds) env = (bnd p d env).bind fun e => bnds ps ds e := by rw [bnds]
@[simp] theorem e_muts0 : muts [] env = some [] := by rw [muts]
@[simp] theorem e_mutsn {s : Sl} : muts (none :: md) (s :: env) = muts md env := by rw [muts]
@[simp] theorem e_mutsk {k' : Kd} : muts (some k :: md) (.val k' d :: env) = if Kd.beq k' k = true then (muts md env).map fun r => d :: r else none := by rw [muts]
@[simp] theorem e_mdKn : mdK none = .z := (rfl)
@[simp] theorem e_mdKs : mdK (some k) = k := (rfl)
@[simp] theorem e_beqz : Kd.beq .z .z = true := (rfl)
@[simp] theorem e_beqa {k l : Kd} : Kd.beq (.all k) (.all l) = Kd.beq k l := (rfl)
@[simp] theorem e_beqza : Kd.beq .z (.all k) = false := (rfl)
@[simp] theorem e_beqaz : Kd.beq (.all k) .z = false := (rfl)
@[simp] theorem e_zit0 : zitems [] = some [] := (rfl)
@[simp] theorem e_zit1 {b : Bool} {vs : List Pv} : zitems ((b, .z, d) :: vs) = (zitems vs).map fun ds => d :: ds := (rfl)
@[simp] theorem e_truB {b b' : Bool} : gTru (b, k, .bl b') = some b' := (rfl)
@[simp] theorem e_truL {b : Bool} : gTru (b, k, .nd .lst ds) = some (!ds.isEmpty) := (rfl)
end
end Vt

set_option Elab.async false
set_option linter.all false
set_option autoImplicit false
set_option maxRecDepth 100000
set_option maxHeartbeats 1000000
/-! Vt21: the primitives at data whose shape is known; loops by an invariant. -/
namespace Vt
section
variable {a b : Bool} {k l : Kd} {i j : Int}
@[simp] theorem v_add : gAdd2 (a, k, .int i) (b, l, .int j) = ret (.int (i + j)) := (rfl)
@[simp] theorem v_sub : gSub' (a, k, .int i) (b, l, .int j) = ret (.int (i - j)) := (rfl)
@[simp] theorem v_lt : gLt (a, k, .int i) (b, l, .int j) = ret (.bl (decide (i < j))) := (rfl)
@[simp] theorem v_le : gLe (a, k, .int i) (b, l, .int j) = ret (.bl (decide (i ≤ j))) := (rfl)
@[simp] theorem v_gt : gGt (a, k, .int i) (b, l, .int j) = ret (.bl (decide (j < i))) := (rfl)
@[simp] theorem v_ge : gGe (a, k, .int i) (b, l, .int j) = ret (.bl (decide (j ≤ i))) := (rfl)
@[simp] theorem v_mul : gMul2 (a, k, .int i) (b, l, .int j) = if mulOk i j = true then ret (.int (i * j)) else none := (rfl)
@[simp] theorem v_div : gDiv (a, k, .int i) (b, l, .int j) = if divOk i j = true then ret (.int (i / j)) else none := (rfl)
@[simp] theorem v_mod : gMod (a, k, .int i) (b, l, .int j) = if modOk i j = true then ret (.int (i % j)) else none := (rfl)
@[simp] theorem v_pow : gPow (a, k, .int i) (b, l, .int j) = if powOk i j = true then ret (.int (i ^ j.toNat)) else none := (rfl)
@[simp] theorem v_neg : gNeg (a, k, .int i) = ret (.int (-i)) := (rfl)
@[simp] theorem v_max2 : gMax2 (a, k, .int i) (b, l, .int j) = ret (.int (if j > i then j else i)) := (rfl)
@[simp] theorem v_min2 : gMin2 (a, k, .int i) (b, l, .int j) = ret (.int (if j < i then j else i)) := (rfl)
@[simp] theorem v_int : gInt (a, k, .int i) = ret (.int i) := (rfl)
@[simp] theorem v_g1 {g : Pv → Option Pv} {x : Pv} : g1 g [x] = g x := (rfl)
@[simp] theorem v_g2 {g : Pv → Pv → Option Pv} {x y : Pv} : g2 g [x, y] = g x y := (rfl)
@[simp] theorem v_cat {xs ys : List D} : gAdd2 (a, k, .nd .lst xs) (b, l, .nd .lst ys) = if k.zs xs.length && l.zs ys.length && decide (xs.length + ys.length ≤ 100000) then zlist (xs ++ ys) else none := (rfl)
theorem eqb_int : D.eqb (.int i) (.int j) = decide (i = j) := by
  show PySem.PyData.eqv (.int i) (.int j) = _
  rw [PySem.PyData.eqv]
  rw [Bool.eq_iff_iff]; simp
@[simp] theorem v_eq : gEq false (a, k, .int i) (b, l, .int j) = ret (.bl (decide (i = j))) := by
  show (if (D.int i).okE && (D.int j).okE then ret (.bl ((D.int i).eqb (.int j))) else none) = _
  rw [eqb_int]; rfl
@[simp] theorem v_ne : gEq true (a, k, .int i) (b, l, .int j) = ret (.bl (!decide (i = j))) := by
  show (if (D.int i).okE && (D.int j).okE then ret (.bl (!(D.int i).eqb (.int j))) else none) = _
  rw [eqb_int]; rfl
end

/-- plain data (no truth values, no texts), lists and tuples not nested deeper than n -/
def D.plN : Nat → D → Bool
  | _, .non => true
  | _, .int _ => true
  | n + 1, .nd .lst xs => xs.all (D.plN n)
  | n + 1, .nd .tup xs => xs.all (D.plN n)
  | _, _ => false
theorem pys_len : ∀ xs : List D, (D.pys xs).length = xs.length
  | [] => rfl
  | x :: xs => by simp [D.pys, pys_len xs]
theorem pls_ok {n : Nat} (ih : ∀ d, D.plN n d = true → d.isPy = true ∧ d.py.canLay0 = true ∧ d.py.depth ≤ n) : ∀ xs : List D, xs.all (D.plN n) = true → D.isPys xs = true ∧ PySem.PyData.canLayAll0 (D.pys xs) = true ∧ PySem.PyData.depthAll (D.pys xs) ≤ n
  | [], _ => ⟨rfl, rfl, Nat.zero_le _⟩
  | x :: xs, h => by
    simp only [List.all_cons, Bool.and_eq_true] at h
    obtain ⟨a, b, c⟩ := ih x h.1
    obtain ⟨a', b', c'⟩ := pls_ok ih xs h.2
    simp only [D.isPys, D.pys, PySem.PyData.canLayAll0, PySem.PyData.depthAll, a, b, a', b', Bool.and_self, true_and]
    omega
theorem plN_ok : ∀ (n : Nat) (d : D), D.plN n d = true → d.isPy = true ∧ d.py.canLay0 = true ∧ d.py.depth ≤ n
  | n, .non, _ => ⟨rfl, rfl, Nat.zero_le _⟩
  | n, .int i, _ => ⟨rfl, rfl, Nat.zero_le _⟩
  | n, .bl _, h => by cases n <;> cases h
  | n, .str _, h => by cases n <;> cases h
  | 0, .nd s xs, h => by cases s <;> cases h
  | n + 1, .nd .lst xs, h => by
    obtain ⟨a, b, c⟩ := pls_ok (plN_ok n) xs h
    refine ⟨a, b, ?_⟩
    show PySem.PyData.depth (.list (D.pys xs)) ≤ n + 1
    simp only [PySem.PyData.depth]
    omega
  | n + 1, .nd .tup xs, h => by
    obtain ⟨a, b, c⟩ := pls_ok (plN_ok n) xs h
    refine ⟨a, b, ?_⟩
    show PySem.PyData.depth (.tuple (D.pys xs)) ≤ n + 1
    simp only [PySem.PyData.depth]
    omega
  | n + 1, .nd .scr xs, h => by cases h
  | n + 1, .nd (.dK _) xs, h => by cases h
  | n + 1, .nd (.dT _) xs, h => by cases h
  | n + 1, .nd (.obj _ _) xs, h => by cases h
theorem plN_okE {n : Nat} {d : D} (h : D.plN n d = true) (hn : n ≤ 64) : d.okE = true := by
  obtain ⟨a, b, c⟩ := plN_ok n d h
  unfold D.okE PySem.SeqAt.shaped
  rw [a, b, decide_eq_true (Nat.le_trans c hn)]
  rfl
theorem eqvs_pl {n : Nat} (ih : ∀ d e, D.plN n d = true → D.plN n e = true → (PySem.PyData.eqv d.py e.py = true ↔ d = e)) : ∀ xs ys : List D, xs.all (D.plN n) = true → ys.all (D.plN n) = true → (PySem.PyData.eqvAll (D.pys xs) (D.pys ys) = true ↔ xs = ys)
  | [], [], _, _ => by simp [D.pys, PySem.PyData.eqvAll]
  | [], y :: ys, _, _ => by simp [D.pys, PySem.PyData.eqvAll]
  | x :: xs, [], _, _ => by simp [D.pys, PySem.PyData.eqvAll]
  | x :: xs, y :: ys, h1, h2 => by
    simp only [List.all_cons, Bool.and_eq_true] at h1 h2
    simp only [D.pys, PySem.PyData.eqvAll, Bool.and_eq_true, List.cons.injEq]
    rw [ih x y h1.1 h2.1, eqvs_pl ih xs ys h1.2 h2.2]
theorem eqv_pl : ∀ (n : Nat) (d e : D), D.plN n d = true → D.plN n e = true → (PySem.PyData.eqv d.py e.py = true ↔ d = e)
  | n, .non, e, _, h => by
    cases e with
    | nd s xs => cases n with
      | zero => cases s <;> cases h
      | succ n => cases s <;> first | cases h | simp [D.py, PySem.PyData.eqv]
    | bl _ => cases n <;> cases h
    | str _ => cases n <;> cases h
    | _ => simp [D.py, PySem.PyData.eqv]
  | n, .int i, e, _, h => by
    cases e with
    | nd s xs => cases n with
      | zero => cases s <;> cases h
      | succ n => cases s <;> first | cases h | simp [D.py, PySem.PyData.eqv]
    | bl _ => cases n <;> cases h
    | str _ => cases n <;> cases h
    | _ => simp [D.py, PySem.PyData.eqv]
  | n, .bl _, e, h, _ => by cases n <;> cases h
  | n, .str _, e, h, _ => by cases n <;> cases h
  | 0, .nd s xs, e, h, _ => by cases s <;> cases h
  | n + 1, .nd .lst xs, e, h, h' => by
    cases e with
    | nd s ys => cases s with
      | lst => simp only [D.py, PySem.PyData.eqv]; rw [eqvs_pl (eqv_pl n) xs ys h h']; simp
      | tup => simp [D.py, PySem.PyData.eqv]
      | _ => cases h'
    | bl _ => cases h'
    | str _ => cases h'
    | _ => simp [D.py, PySem.PyData.eqv]
  | n + 1, .nd .tup xs, e, h, h' => by
    cases e with
    | nd s ys => cases s with
      | tup => simp only [D.py, PySem.PyData.eqv]; rw [eqvs_pl (eqv_pl n) xs ys h h']; simp
      | lst => simp [D.py, PySem.PyData.eqv]
      | _ => cases h'
    | bl _ => cases h'
    | str _ => cases h'
    | _ => simp [D.py, PySem.PyData.eqv]
  | n + 1, .nd .scr xs, e, h, _ => by cases h
  | n + 1, .nd (.dK _) xs, e, h, _ => by cases h
  | n + 1, .nd (.dT _) xs, e, h, _ => by cases h
  | n + 1, .nd (.obj _ _) xs, e, h, _ => by cases h
open Classical in
theorem eq_pl {b1 b2 : Bool} {k l : Kd} {d e : D} (h : D.plN 8 d = true) (h' : D.plN 8 e = true) : gEq false (b1, k, d) (b2, l, e) = ret (.bl (decide (d = e))) := by
  show (if d.okE && e.okE then ret (.bl (d.eqb e)) else none) = _
  rw [plN_okE h (by decide), plN_okE h' (by decide)]
  have : d.eqb e = decide (d = e) := by rw [Bool.eq_iff_iff, decide_eq_true_iff]; exact eqv_pl 8 d e h h'
  rw [this]; rfl
open Classical in
theorem ne_pl {b1 b2 : Bool} {k l : Kd} {d e : D} (h : D.plN 8 d = true) (h' : D.plN 8 e = true) : gEq true (b1, k, d) (b2, l, e) = ret (.bl (!decide (d = e))) := by
  show (if d.okE && e.okE then ret (.bl (!d.eqb e)) else none) = _
  rw [plN_okE h (by decide), plN_okE h' (by decide)]
  have : d.eqb e = decide (d = e) := by rw [Bool.eq_iff_iff, decide_eq_true_iff]; exact eqv_pl 8 d e h h'
  rw [this]; rfl
/-- the list of ints ns -/
abbrev dI (ns : List Int) : D := .nd .lst (ns.map D.int)
theorem plN_dI (n : Nat) (ns : List Int) : D.plN (n + 1) (dI ns) = true := by simp [D.plN]

/-! ### loops -/
theorem forGo_inv {pt : Pat} {body : SX} {ds : List D} (I : Nat → Env → Prop) (step : ∀ (i : Nat) (d : D) (env : Env), ds[i]? = some d → I i env → ∃ e1 e2, bnd pt d env = some e1 ∧ (body e1 = .nx e2 ∨ body e1 = .ct e2) ∧ I (i + 1) e2) {env : Env} (h0 : I 0 env) :
    ∃ e', forGo pt body ds env = .nx e' ∧ I ds.length e' := by
  suffices h : ∀ (n i : Nat) (env : Env), n + i = ds.length → I i env → ∃ e', forGo pt body (ds.drop i) env = .nx e' ∧ I ds.length e' by
    have := h ds.length 0 env rfl h0
    rwa [List.drop_zero] at this
  intro n
  induction n with
  | zero =>
    intro i env hi hI
    have e : i = ds.length := by omega
    subst e
    rw [List.drop_length]
    exact ⟨env, rfl, hI⟩
  | succ n ih =>
    intro i env hi hI
    have hlt : i < ds.length := by omega
    rw [List.drop_eq_getElem_cons hlt]
    obtain ⟨e1, e2, h1, h2, h3⟩ := step i ds[i] env (by simp [hlt]) hI
    unfold forGo
    rw [h1]
    dsimp only
    rcases h2 with h2 | h2 <;> rw [h2] <;> exact ih (i + 1) e2 (by omega) h3
/-- a loop that folds -/
theorem forGo_fold {α : Type} {pt : Pat} {body : SX} (en : α → Env) (f : α → D → α) (ds : List D) (step : ∀ (a : α) (d : D), d ∈ ds → ∃ e1, bnd pt d (en a) = some e1 ∧ (body e1 = .nx (en (f a d)) ∨ body e1 = .ct (en (f a d)))) (a : α) :
    forGo pt body ds (en a) = .nx (en (ds.foldl f a)) := by
  induction ds generalizing a with
  | nil => rfl
  | cons d ds ih =>
    obtain ⟨e1, h1, h2⟩ := step a d List.mem_cons_self
    unfold forGo
    rw [h1]
    dsimp only
    rcases h2 with h2 | h2 <;> rw [h2] <;> exact ih (fun a d hd => step a d (List.mem_cons_of_mem _ hd)) _
theorem ixN_nat {n j : Nat} : L2.ixN n (j : Int) = if j < n then some j else none := by
  unfold L2.ixN
  by_cases h : j < n
  · rw [if_pos (by omega), if_pos (by omega), if_pos h]; simp
  · rw [if_pos (by omega), if_neg (by omega), if_neg h]
/-- xs[j] -/
theorem v_ix {a b : Bool} {k l : Kd} {xs : List D} {i : Int} {j : Nat} {d : D} (hi : L2.ixN xs.length i = some j) (hd : xs[j]? = some d) (hz : (k.kid j).isZ = true) : gIx (a, k, .nd .lst xs) (b, l, .int i) = ret d := by
  simp [gIx, D.seq, hi, hd, hz]
theorem v_ixT {a b : Bool} {k l : Kd} {xs : List D} {i : Int} {j : Nat} {d : D} (hi : L2.ixN xs.length i = some j) (hd : xs[j]? = some d) (hz : (k.kid j).isZ = true) : gIx (a, k, .nd .tup xs) (b, l, .int i) = ret d := by
  simp [gIx, D.seq, hi, hd, hz]
theorem ixI {a b : Bool} {k l : Kd} {ns : List Int} {j : Nat} (h : j < ns.length) (hz : (k.kid j).isZ = true) : gIx (a, k, dI ns) (b, l, .int (j : Int)) = ret (.int (ns[j])) :=
  v_ix (j := j) (by rw [ixN_nat, if_pos (by simpa using h)]) (by simp [h]) hz

mutual
theorem Kd.beq_refl : ∀ k : Kd, Kd.beq k k = true
  | .z => rfl
  | .all k => by unfold Kd.beq; exact Kd.beq_refl k
  | .each ks => by unfold Kd.beq; exact Kd.beqL_refl ks
theorem Kd.beqL_refl : ∀ ks : List Kd, Kd.beqL ks ks = true
  | [] => rfl
  | k :: ks => by unfold Kd.beqL; rw [Kd.beq_refl k, Kd.beqL_refl ks]; rfl
end
theorem cmpGo_eq {pt : Pat} {cond : Env → Option Bool} {elt : PX} {k : Kd} {env : Env} (c : D → Bool) (f : D → D) : ∀ (ds : List D), (∀ d ∈ ds, ∃ e1, bnd pt d env = some e1 ∧ cond e1 = some (c d) ∧ (c d = true → elt e1 = some (false, k, f d))) →
    cmpGo pt cond elt k ds env = some ((ds.filter c).map f)
  | [], _ => rfl
  | d :: ds, h => by
    obtain ⟨e1, h1, h2, h3⟩ := h d List.mem_cons_self
    have ih := cmpGo_eq (k := k) (elt := elt) c f ds (fun d hd => h d (List.mem_cons_of_mem _ hd))
    unfold cmpGo
    rw [h1, Option.bind_some, h2, Option.bind_some]
    cases hc : c d with
    | false => rw [if_neg Bool.false_ne_true, ih, List.filter_cons_of_neg (by simp [hc])]
    | true =>
      rw [if_pos rfl, h3 hc, Option.bind_some, List.filter_cons_of_pos hc, ih]
      simp [Kd.beq_refl]
theorem lc2Go_eq {pt pt1 : Pat} {cond : Env → Option Bool} {it1 : Env → Option (List D)} {own1 : List Nat} {cond1 : Env → Option Bool} {elt : PX} {k : Kd} {env : Env} (f : D → List D) : ∀ (ds : List D),
    (∀ d ∈ ds, ∃ e1 ds1, bnd pt d env = some e1 ∧ cond e1 = some true ∧ it1 e1 = some ds1 ∧ ownZ own1 0 e1 = true ∧ cmpGo pt1 cond1 elt k ds1 (wipeE own1 0 e1) = some (f d)) →
    lc2Go pt cond it1 own1 pt1 cond1 elt k ds env = some (ds.flatMap f)
  | [], _ => rfl
  | d :: ds, h => by
    obtain ⟨e1, ds1, h1, h2, h3, h4, h5⟩ := h d List.mem_cons_self
    have ih := lc2Go_eq (k := k) (elt := elt) (cond := cond) (it1 := it1) (own1 := own1) (pt1 := pt1) (cond1 := cond1) f ds (fun d hd => h d (List.mem_cons_of_mem _ hd))
    unfold lc2Go
    rw [h1, Option.bind_some, h2, Option.bind_some, if_pos rfl, h3, Option.bind_some, if_pos h4, h5, Option.bind_some, ih, List.flatMap_cons]
    rfl
@[simp] theorem rngD_length {lo : Int} {n : Nat} : (rngD lo n).length = n := by simp [rngD]
@[simp] theorem enumD_length : ∀ {ds : List D} {n : Nat}, (enumD n ds).length = ds.length
  | [], _ => rfl
  | d :: ds, n => by simp [enumD, enumD_length]
@[simp] theorem v_lstOf {xs : List D} : (D.nd .lst xs).lstOf = some xs := (rfl)
@[simp] theorem v_lstOfS {xs : List D} : (D.nd .scr xs).lstOf = some xs := (rfl)
@[simp] theorem v_seq {xs : List D} : (D.nd .lst xs).seq = some xs := (rfl)
@[simp] theorem v_seqS {xs : List D} : (D.nd .scr xs).seq = some xs := (rfl)
@[simp] theorem v_seqT {xs : List D} : (D.nd .tup xs).seq = some xs := (rfl)
@[simp] theorem v_ints {ns : List Int} : D.ints (ns.map D.int) = some ns := ints_map ns
/-- the item at k, 0 if there is none -/
def atI (ns : List Int) (k : Int) : Int := ns.getD k.toNat 0
theorem ixG {a b : Bool} {k l : Kd} {ns : List Int} {i : Int} (h0 : 0 ≤ i) (h : i < ns.length) (hz : ∀ j, (k.kid j).isZ = true) : gIx (a, k, dI ns) (b, l, .int i) = ret (.int (atI ns i)) := by
  obtain ⟨j, rfl⟩ := Int.eq_ofNat_of_zero_le h0
  have hj : j < ns.length := by omega
  refine v_ix (j := j) (by rw [ixN_nat, if_pos (by simpa using hj)]) ?_ (hz j)
  simp [atI, hj]
theorem ixN_last {n : Nat} (h : 0 < n) : L2.ixN n (-1) = some (n - 1) := by
  unfold L2.ixN
  rw [if_neg (by omega), if_pos (by omega)]
  congr 1
  omega
theorem ixN_neg {n : Nat} : L2.ixN n (-1) = if 0 < n then some (n - 1) else none := by
  by_cases h : 0 < n
  · rw [if_pos h, ixN_last h]
  · rw [if_neg h]; unfold L2.ixN; rw [if_neg (by omega), if_neg (by omega)]
end Vt

/-! ## printed by gen.py -/
namespace K56
open PySem L2 Vt
def top (i : Nat) : Stmt := PySem.Challenge.pw_handpiles_k56_windows.main.body.getD i (.Pass ⟨0, 0, 0, 0⟩)
abbrev s__law_like : Stmt := top 16
abbrev N__law_like : List Str := ["found", "due", "k"]
abbrev md__law_like : Md := [none, none]
abbrev s__law_pool : Stmt := top 12
abbrev N__law_pool : List Str := ["cell", "turn", "number"]
abbrev md__law_pool : Md := [none, none]
abbrev s__law_take : Stmt := top 13
abbrev N__law_take : List Str := ["pool", "many", "found"]
abbrev md__law_take : Md := [some (.all .z), none]
abbrev s__law_size : Stmt := top 15
abbrev N__law_size : List Str := ["pool", "many", "kind"]
abbrev md__law_size : Md := [some (.all .z), none]
abbrev s__law_goes : Stmt := top 20
abbrev N__law_goes : List Str := ["last", "told0", "card", "fits", "one"]
abbrev md__law_goes : Md := [none, none, none]
abbrev s__law_spans : Stmt := top 21
abbrev N__law_spans : List Str := ["piles", "size", "cards", "pile", "spans", "k", "first", "i"]
abbrev md__law_spans : Md := [none, none]
abbrev s__law_cards : Stmt := top 14
abbrev N__law_cards : List Str := ["pool", "many", "step", "low", "order", "k"]
abbrev md__law_cards : Md := [some (.all .z), none]
abbrev s__law_way : Stmt := top 17
abbrev N__law_way : List Str := ["cards", "size", "held", "k", "drawn", "way", "pile", "step", "fits", "best"]
abbrev md__law_way : Md := [none, none]
abbrev s__law_piles : Stmt := top 18
abbrev N__law_piles : List Str := ["cards", "size", "piles", "k", "pile"]
abbrev md__law_piles : Md := [none, none]
abbrev s__law_told : Stmt := top 19
abbrev N__law_told : List Str := ["pool", "many", "size", "cards"]
abbrev md__law_told : Md := [some (.all .z), none]
abbrev s_check_hand : Stmt := top 5
abbrev N_check_hand : List Str := ["hand"]
abbrev md_check_hand : Md := [none]
abbrev s_check_piles : Stmt := top 7
abbrev N_check_piles : List Str := ["told", "index", "pile"]
abbrev md_check_piles : Md := [none]
abbrev s_goes_ahead : Stmt := top 9
abbrev N_goes_ahead : List Str := ["card", "told", "index", "begins"]
abbrev md_goes_ahead : Md := [none, none, none, none]
abbrev s_joined : Stmt := top 8
abbrev N_joined : List Str := ["told", "pile", "card"]
abbrev md_joined : Md := [none]
abbrev s_windows : Stmt := top 10
abbrev N_windows : List Str := ["told", "hand", "cards", "begins", "pile", "index", "spans", "number", "card", "first"]
abbrev md_windows : Md := [none, none]
abbrev s_law : Stmt := top 22
abbrev N_law : List Str := ["script", "turn", "cell", "pool", "many", "piles", "first", "size", "handed", "pile", "due"]
abbrev md_law : Md := [none]
structure Txt (K : PySem.W.Frag) (mg : Str → Option Value) where
  a__law_like : Addr
  d__law_like : FuncData
  F__law_like : Fun K "_law_like" "_law_like" s__law_like a__law_like d__law_like
  b__law_like : Binds K d__law_like ["found", "due"] []
  m__law_like : mg "_law_like" = some (.ref a__law_like)
  a__law_pool : Addr
  d__law_pool : FuncData
  F__law_pool : Fun K "_law_pool" "_law_pool" s__law_pool a__law_pool d__law_pool
  b__law_pool : Binds K d__law_pool ["cell", "turn"] []
  m__law_pool : mg "_law_pool" = some (.ref a__law_pool)
  a__law_take : Addr
  d__law_take : FuncData
  F__law_take : Fun K "_law_take" "_law_take" s__law_take a__law_take d__law_take
  b__law_take : Binds K d__law_take ["pool", "many"] []
  m__law_take : mg "_law_take" = some (.ref a__law_take)
  a__law_size : Addr
  d__law_size : FuncData
  F__law_size : Fun K "_law_size" "_law_size" s__law_size a__law_size d__law_size
  b__law_size : Binds K d__law_size ["pool", "many"] []
  m__law_size : mg "_law_size" = some (.ref a__law_size)
  a__law_goes : Addr
  d__law_goes : FuncData
  F__law_goes : Fun K "_law_goes" "_law_goes" s__law_goes a__law_goes d__law_goes
  b__law_goes : Binds K d__law_goes ["last", "told0", "card"] []
  m__law_goes : mg "_law_goes" = some (.ref a__law_goes)
  a__law_spans : Addr
  d__law_spans : FuncData
  F__law_spans : Fun K "_law_spans" "_law_spans" s__law_spans a__law_spans d__law_spans
  b__law_spans : Binds K d__law_spans ["piles", "size"] []
  m__law_spans : mg "_law_spans" = some (.ref a__law_spans)
  a__law_cards : Addr
  d__law_cards : FuncData
  F__law_cards : Fun K "_law_cards" "_law_cards" s__law_cards a__law_cards d__law_cards
  b__law_cards : Binds K d__law_cards ["pool", "many"] []
  m__law_cards : mg "_law_cards" = some (.ref a__law_cards)
  a__law_way : Addr
  d__law_way : FuncData
  F__law_way : Fun K "_law_way" "_law_way" s__law_way a__law_way d__law_way
  b__law_way : Binds K d__law_way ["cards", "size"] []
  m__law_way : mg "_law_way" = some (.ref a__law_way)
  a__law_piles : Addr
  d__law_piles : FuncData
  F__law_piles : Fun K "_law_piles" "_law_piles" s__law_piles a__law_piles d__law_piles
  b__law_piles : Binds K d__law_piles ["cards", "size"] []
  m__law_piles : mg "_law_piles" = some (.ref a__law_piles)
  a__law_told : Addr
  d__law_told : FuncData
  F__law_told : Fun K "_law_told" "_law_told" s__law_told a__law_told d__law_told
  b__law_told : Binds K d__law_told ["pool", "many"] []
  m__law_told : mg "_law_told" = some (.ref a__law_told)
  a_check_hand : Addr
  d_check_hand : FuncData
  F_check_hand : Fun K "check_hand" "check_hand" s_check_hand a_check_hand d_check_hand
  b_check_hand : Binds K d_check_hand ["hand"] []
  m_check_hand : mg "check_hand" = some (.ref a_check_hand)
  a_check_piles : Addr
  d_check_piles : FuncData
  F_check_piles : Fun K "check_piles" "check_piles" s_check_piles a_check_piles d_check_piles
  b_check_piles : Binds K d_check_piles ["told"] []
  m_check_piles : mg "check_piles" = some (.ref a_check_piles)
  a_goes_ahead : Addr
  d_goes_ahead : FuncData
  F_goes_ahead : Fun K "goes_ahead" "goes_ahead" s_goes_ahead a_goes_ahead d_goes_ahead
  b_goes_ahead : Binds K d_goes_ahead ["card", "told", "index", "begins"] []
  m_goes_ahead : mg "goes_ahead" = some (.ref a_goes_ahead)
  a_joined : Addr
  d_joined : FuncData
  F_joined : Fun K "joined" "joined" s_joined a_joined d_joined
  b_joined : Binds K d_joined ["told"] []
  m_joined : mg "joined" = some (.ref a_joined)
  a_windows : Addr
  d_windows : FuncData
  F_windows : Fun K "windows" "windows" s_windows a_windows d_windows
  b_windows : Binds K d_windows ["told", "hand"] []
  m_windows : mg "windows" = some (.ref a_windows)
  a_law : Addr
  d_law : FuncData
  F_law : Fun K "law" "law" s_law a_law d_law
  b_law : Binds K d_law ["script"] []
  m_law : mg "law" = some (.ref a_law)
  n_bool : mg "bool" = none
  n_enumerate : mg "enumerate" = none
  n_int : mg "int" = none
  n_isinstance : mg "isinstance" = none
  n_len : mg "len" = none
  n_list : mg "list" = none
  n_max : mg "max" = none
  n_min : mg "min" = none
  n_range : mg "range" = none
  n_sorted : mg "sorted" = none
  n_tuple : mg "tuple" = none
section
variable {P : Program} {w : World} {K : PySem.W.Frag} {mg : Str → Option Value} {base : Heap}
theorem sc__law_like : FnScope N__law_like ["found", "due"] (defScope s__law_like) := ⟨rfl, rfl, rfl, by decide +kernel, rfl, by decide +kernel, by decide +kernel⟩
def _law_like_L1 (r_D : Fn) : SX := (ifS (mNot (mtTru (callM md__law_like r_D [.e (mP (pOp2 gIx (pVar 0) (pVar 2))), .e (mP (pOp2 gIx (pVar 1) (pVar 2)))]))) (rtS false (mP (pC (.bl false)))) passS)
def _law_like_B (r_D : Fn) : SX := (seqS (ifS (mtP (pTst (pOp2 (gIsN false) (pVar 1) (pC .non)))) (rtS false (mP (pOp2 (gIsN false) (pVar 0) (pC .non)))) passS)
    (seqS (ifS (mtP (pTru (pOp1 (gIsi "bool") (pVar 1)))) (rtS false (mP (pAndV (pOp1 (gIsi "bool") (pVar 0)) (pOp2 (gEq false) (pVar 0) (pVar 1))))) passS)
    (seqS (ifS (mtP (pTru (pOp1 (gIsi "int") (pVar 1)))) (rtS false (mP (pAndV (pOp1 (gIsi "int") (pVar 0)) (pAndV (pNotV (pOp1 (gIsi "bool") (pVar 0))) (pOp2 (gEq false) (pVar 0) (pVar 1)))))) passS)
    (seqS (ifS (mtP (pAnd (pTru (pOp1 (gIsi "list") (pVar 1))) (pNot (pTru (pOp1 (gIsi "list") (pVar 0)))))) (rtS false (mP (pC (.bl false)))) passS)
    (seqS (ifS (mtP (pAnd (pTru (pOp1 (gIsi "tuple") (pVar 1))) (pNot (pTru (pOp1 (gIsi "tuple") (pVar 0)))))) (rtS false (mP (pC (.bl false)))) passS)
    (seqS (ifS (mtP (pTst (pOp2 (gEq true) (pOpN (g1 gLen) (pCons (pVar 0) pNil)) (pOpN (g1 gLen) (pCons (pVar 1) pNil))))) (rtS false (mP (pC (.bl false)))) passS)
    (seqS (forS (.nm 2) (mItR1 (mCons (mP (pOpN (g1 gLen) (pCons (pVar 1) pNil))) mNil)) (_law_like_L1 r_D))
    (rtS false (mP (pC (.bl true)))))))))))
def _law_like_D : Nat → Fn
  | 0 => badF
  | n + 1 => mkF md__law_like 3 (_law_like_B (_law_like_D n))
theorem ok__law_like (T : Txt K mg) : ∀ n : Nat, FnOk P w K mg base CX0 (0 + n) T.a__law_like T.d__law_like ["found", "due"] (spF md__law_like (_law_like_D n))
  | 0 => FnOk.bad
  | n + 1 => by
    have rOk := ok__law_like T n
    generalize hD : _law_like_D n = r_D at rOk
    show FnOk P w K mg base CX0 (0 + n + 1) T.a__law_like T.d__law_like ["found", "due"] (spF md__law_like (mkF md__law_like 3 (_law_like_B (_law_like_D n))))
    rw [hD]
    refine def_ok0 (N := N__law_like) (body := _law_like_B r_D) T.F__law_like sc__law_like rfl (by decide) fun cdv A outer s H E hr => ?_
    unfold _law_like_B
    exact (ss_cons (st_if (tm_P (ptv_cmp op_isN ok_isN (pv_var 1 (pv 1)) pv_non (nomark _))) (ss_one (st_ret (em_P (pv_cmp op_isN ok_isN (pv_var 0 (pv 0)) pv_non (nomark _))))) ss_nil)
    (ss_cons (st_if (tm_P (ptv_truth (pv_isi isi_bool (by rfl) T.n_isinstance (by rfl) T.n_bool (by rfl) (pv_var 1 (pv 1))))) (ss_one (st_ret (em_P (pv_and (pv_isi isi_bool (by rfl) T.n_isinstance (by rfl) T.n_bool (by rfl) (pv_var 0 (pv 0))) (pv_one (pv_cmp (op_eqD hr.units) ok_eq (pv_var 0 (pv 0)) (pv_var 1 (pv 1)) (nomark _))))))) ss_nil)
    (ss_cons (st_if (tm_P (ptv_truth (pv_isi isi_int (by rfl) T.n_isinstance (by rfl) T.n_int (by rfl) (pv_var 1 (pv 1))))) (ss_one (st_ret (em_P (pv_and (pv_isi isi_int (by rfl) T.n_isinstance (by rfl) T.n_int (by rfl) (pv_var 0 (pv 0))) (pv_and (pv_not (pv_isi isi_bool (by rfl) T.n_isinstance (by rfl) T.n_bool (by rfl) (pv_var 0 (pv 0)))) (pv_one (pv_cmp (op_eqD hr.units) ok_eq (pv_var 0 (pv 0)) (pv_var 1 (pv 1)) (nomark _)))))))) ss_nil)
    (ss_cons (st_if (tm_P (PW.pt (ptw_and (ptv_truth (pv_isi isi_list (by rfl) T.n_isinstance (by rfl) T.n_list (by rfl) (pv_var 1 (pv 1)))) (ptw_and1 (ptv_not (ptv_truth (pv_isi isi_list (by rfl) T.n_isinstance (by rfl) T.n_list (by rfl) (pv_var 0 (pv 0))))))))) (ss_one (st_ret (em_P pv_bl))) ss_nil)
    (ss_cons (st_if (tm_P (PW.pt (ptw_and (ptv_truth (pv_isi isi_tuple (by rfl) T.n_isinstance (by rfl) T.n_tuple (by rfl) (pv_var 1 (pv 1)))) (ptw_and1 (ptv_not (ptv_truth (pv_isi isi_tuple (by rfl) T.n_isinstance (by rfl) T.n_tuple (by rfl) (pv_var 0 (pv 0))))))))) (ss_one (st_ret (em_P pv_bl))) ss_nil)
    (ss_cons (st_if (tm_P (ptv_cmp (op_neD hr.units) ok_ne (pv_callB call_len_seq ok_len (by rfl) T.n_len (by rfl) (pa_pCons (pv_var 0 (pv 0)) pa_pNil)) (pv_callB call_len_seq ok_len (by rfl) T.n_len (by rfl) (pa_pCons (pv_var 1 (pv 1)) pa_pNil)) (nomark _))) (ss_one (st_ret (em_P pv_bl))) ss_nil)
    (ss_cons (st_for PassesOwn.never rfl (im_rng1 (by rfl) T.n_range (am_cons (em_P (pv_callB call_len_seq ok_len (by rfl) T.n_len (by rfl) (pa_pCons (pv_var 1 (pv 1)) pa_pNil))) am_nil)) (pgv_nm 2 (pg_name (i := 2) sc__law_like.nd rfl (by first | exact Or.inl rfl | exact Or.inr rfl))) (ss_one (st_if (tm_not (tm_truth (em_call rOk hr (by rfl) T.m__law_like T.F__law_like.kp T.b__law_like pass0E (ag_e (em_P (pv_ix (pv_var 0 (pv 0)) (pv_var 2 (pv 2)))) (ag_e (em_P (pv_ix (pv_var 1 (pv 1)) (pv_var 2 (pv 2)))) ag_nil))))) (ss_one (st_ret (em_P pv_bl))) ss_nil)))
    (ss_one (st_ret (em_P pv_bl))))))))))
theorem sc__law_pool : FnScope N__law_pool ["cell", "turn"] (defScope s__law_pool) := ⟨rfl, rfl, rfl, by decide +kernel, rfl, by decide +kernel, by decide +kernel⟩
def _law_pool_B : SX := (seqS (ifS (mtP (pTst (pOp2 gGe (pVar 0) (pOp2 gPow (pC (.int 10)) (pC (.int 18)))))) (rtS false (mP (pOpN gLst (pCons (pOp2 gSub' (pVar 0) (pOp2 gPow (pC (.int 10)) (pC (.int 18)))) pNil)))) passS)
    (seqS (asgS 2 false (mP (pOp2 gAdd2 (pOpN (g1 gInt) (pCons (pOp2 gAdd2 (pOp2 gMul2 (pVar 0) (pC (.int 61803398874989484820458683436563811773))) (pOp2 gMul2 (pVar 1) (pC (.int 27182818284590452353602874713527)))) pNil)) (pOp2 gPow (pC (.int 3)) (pC (.int 60))))))
    (seqS (asgS 2 false (mP (pOp2 gMod (pOpN (g1 gInt) (pCons (pVar 2) pNil)) (pOp2 gAdd2 (pOp2 gPow (pC (.int 10)) (pC (.int 41))) (pC (.int 109))))))
    (seqS (asgS 2 false (mP (pOp2 gAdd2 (pOp2 gAdd2 (pOp2 gMul2 (pVar 2) (pVar 2)) (pOp2 gMul2 (pC (.int 5)) (pVar 2))) (pVar 1))))
    (rtS false (mP (pOpN gLst (pCons (pOp2 gDiv (pOp2 gMul2 (pOp2 gMul2 (pVar 2) (pVar 2)) (pVar 2)) (pC (.int 1000003))) pNil))))))))
def _law_pool_D : Fn := mkF md__law_pool 3 _law_pool_B
theorem ok__law_pool (T : Txt K mg) : FnOk P w K mg base CX0 1 T.a__law_pool T.d__law_pool ["cell", "turn"] (spF md__law_pool _law_pool_D) := by
  refine def_ok0 (N := N__law_pool) (body := _law_pool_B) T.F__law_pool sc__law_pool rfl (by decide) fun cdv A outer s H E hr => ?_
  unfold _law_pool_B
  exact (ss_cons (st_if (tm_P (ptv_cmp op_ge ok_ge (pv_var 0 (pv 0)) (pv_bin op_pow ok_pow pv_int pv_int) (nomark _))) (ss_one (st_ret (em_P (pv_lst (pa_pCons (pv_bin op_sub ok_sub (pv_var 0 (pv 0)) (pv_bin op_pow ok_pow pv_int pv_int)) pa_pNil))))) ss_nil)
    (ss_cons (st_asg (ps_set (i := 2) sc__law_pool.nd rfl (by first | exact Or.inl rfl | exact Or.inr rfl) (em_P (pv_bin op_add2 ok_add2 (pv_callTy call_int1 ok_int (by rfl) T.n_int (by rfl) (pa_pCons (pv_bin op_add2 ok_add2 (pv_bin op_mul2 ok_mul2 (pv_var 0 (pv 0)) pv_int) (pv_bin op_mul2 ok_mul2 (pv_var 1 (pv 1)) pv_int)) pa_pNil)) (pv_bin op_pow ok_pow pv_int pv_int)))) (fun q => q))
    (ss_cons (st_asg (ps_set (i := 2) sc__law_pool.nd rfl (by first | exact Or.inl rfl | exact Or.inr rfl) (em_P (pv_bin op_mod ok_mod (pv_callTy call_int1 ok_int (by rfl) T.n_int (by rfl) (pa_pCons (pv_var 2 (pv 2)) pa_pNil)) (pv_bin op_add2 ok_add2 (pv_bin op_pow ok_pow pv_int pv_int) pv_int)))) (fun q => q))
    (ss_cons (st_asg (ps_set (i := 2) sc__law_pool.nd rfl (by first | exact Or.inl rfl | exact Or.inr rfl) (em_P (pv_bin op_add2 ok_add2 (pv_bin op_add2 ok_add2 (pv_bin op_mul2 ok_mul2 (pv_var 2 (pv 2)) (pv_var 2 (pv 2))) (pv_bin op_mul2 ok_mul2 pv_int (pv_var 2 (pv 2)))) (pv_var 1 (pv 1))))) (fun q => q))
    (ss_one (st_ret (em_P (pv_lst (pa_pCons (pv_bin op_fdivW ok_div (pv_bin op_mul2 ok_mul2 (pv_bin op_mul2 ok_mul2 (pv_var 2 (pv 2)) (pv_var 2 (pv 2))) (pv_var 2 (pv 2))) pv_int) pa_pNil)))))))))
theorem sc__law_take : FnScope N__law_take ["pool", "many"] (defScope s__law_take) := ⟨rfl, rfl, rfl, by decide +kernel, rfl, by decide +kernel, by decide +kernel⟩
def _law_take_B : SX := (seqS (asgS 2 false (mP (pOp2 gMod (pOpN (g1 gInt) (pCons (pOp2 gIx (pVar 0) (pC (.int 0))) pNil)) (pVar 1))))
    (seqS (setR 0 (pC (.int 0)) (mP (pOp2 gDiv (pOp2 gIx (pVar 0) (pC (.int 0))) (pVar 1))))
    (rtS false (mP (pVar 2)))))
def _law_take_D : Fn := mkF md__law_take 3 _law_take_B
theorem ok__law_take (T : Txt K mg) : FnOk P w K mg base CX0 1 T.a__law_take T.d__law_take ["pool", "many"] (spF md__law_take _law_take_D) := by
  refine def_ok0 (N := N__law_take) (body := _law_take_B) T.F__law_take sc__law_take rfl (by decide) fun cdv A outer s H E hr => ?_
  unfold _law_take_B
  exact (ss_cons (st_asg (ps_set (i := 2) sc__law_take.nd rfl (by first | exact Or.inl rfl | exact Or.inr rfl) (em_P (pv_bin op_mod ok_mod (pv_callTy call_int1 ok_int (by rfl) T.n_int (by rfl) (pa_pCons (pv_ix (pv_var 0 (pv 0)) pv_int) pa_pNil)) (pv_var 1 (pv 1))))) (fun q => q))
    (ss_cons (st_setR (ps_asg (em_P (pv_bin op_fdivW ok_div (pv_ix (pv_var 0 (pv 0)) pv_int) (pv_var 1 (pv 1)))) (pg_sub (pv 0) pv_int set_list)) (fun q => q))
    (ss_one (st_ret (em_P (pv_var 2 (pv 2)))))))
theorem sc__law_size : FnScope N__law_size ["pool", "many"] (defScope s__law_size) := ⟨rfl, rfl, rfl, by decide +kernel, rfl, by decide +kernel, by decide +kernel⟩
def _law_size_B : SX := (seqS (asgS 2 false (callM md__law_take _law_take_D [.m 0, .e (mP (pC (.int 7)))]))
    (seqS (ifS (mtP (pTst (pOp2 (gEq false) (pVar 2) (pC (.int 0))))) (rtS false (mP (pC (.int 1)))) passS)
    (seqS (ifS (mtP (pTst (pOp2 (gEq false) (pVar 2) (pC (.int 6))))) (rtS false (mOp2 gAdd2 (mP (pOp2 gPow (pC (.int 10)) (pC (.int 20)))) (callM md__law_take _law_take_D [.m 0, .e (mP (pOp2 gPow (pC (.int 10)) (pC (.int 29))))]))) passS)
    (rtS false (mOp2 gAdd2 (mP (pC (.int 1))) (callM md__law_take _law_take_D [.m 0, .e (mP (pOp2 gAdd2 (pVar 1) (pC (.int 2))))]))))))
def _law_size_D : Fn := mkF md__law_size 3 _law_size_B
theorem ok__law_size (T : Txt K mg) : FnOk P w K mg base CX0 2 T.a__law_size T.d__law_size ["pool", "many"] (spF md__law_size _law_size_D) := by
  refine def_ok0 (N := N__law_size) (body := _law_size_B) T.F__law_size sc__law_size rfl (by decide) fun cdv A outer s H E hr => ?_
  unfold _law_size_B
  exact (ss_cons (st_asg (ps_set (i := 2) sc__law_size.nd rfl (by first | exact Or.inl rfl | exact Or.inr rfl) (em_call (ok__law_take T) (hr.mono (by decide)) (by rfl) T.m__law_take T.F__law_take.kp T.b__law_take pass0E (ag_m 0 (pv 0) (ag_e (em_P pv_int) ag_nil)))) (fun q => q))
    (ss_cons (st_if (tm_P (ptv_cmp (op_eqD hr.units) ok_eq (pv_var 2 (pv 2)) pv_int (nomark _))) (ss_one (st_ret (em_P pv_int))) ss_nil)
    (ss_cons (st_if (tm_P (ptv_cmp (op_eqD hr.units) ok_eq (pv_var 2 (pv 2)) pv_int (nomark _))) (ss_one (st_ret (em_bin op_add2 ok_add2 (em_P (pv_bin op_pow ok_pow pv_int pv_int)) (em_call (ok__law_take T) (hr.mono (by decide)) (by rfl) T.m__law_take T.F__law_take.kp T.b__law_take pass0E (ag_m 0 (pv 0) (ag_e (em_P (pv_bin op_pow ok_pow pv_int pv_int)) ag_nil)))))) ss_nil)
    (ss_one (st_ret (em_bin op_add2 ok_add2 (em_P pv_int) (em_call (ok__law_take T) (hr.mono (by decide)) (by rfl) T.m__law_take T.F__law_take.kp T.b__law_take pass0E (ag_m 0 (pv 0) (ag_e (em_P (pv_bin op_add2 ok_add2 (pv_var 1 (pv 1)) pv_int)) ag_nil)))))))))
theorem sc__law_goes : FnScope N__law_goes ["last", "told0", "card"] (defScope s__law_goes) := ⟨rfl, rfl, rfl, by decide +kernel, rfl, by decide +kernel, by decide +kernel⟩
def _law_goes_B : SX := (seqS (asgS 3 true (mP (pComp [4] (pItL (pOpN gLst (pCons (pVar 1) (pCons (pVar 2) pNil)))) (.nm 4) (pOr (pTst (pOp2 (gEq false) (pVar 0) (pOpN gLst pNil))) (pTst (pOp2 gGe (pVar 4) (pOp2 gIx (pVar 0) (pC (.int 0)))))) .z (pVar 4))))
    (seqS (ifS (mtP (pTst (pOp2 (gEq false) (pVar 3) (pOpN gLst pNil)))) (rtS false (mP (pOp2 gLt (pVar 2) (pVar 1)))) passS)
    (rtS false (mP (pOp2 (gEq false) (pOpN (g1 gMinL) (pCons (pVar 3) pNil)) (pVar 2))))))
def _law_goes_D : Fn := mkF md__law_goes 5 _law_goes_B
theorem ok__law_goes (T : Txt K mg) : FnOk P w K mg base CX0 1 T.a__law_goes T.d__law_goes ["last", "told0", "card"] (spF md__law_goes _law_goes_D) := by
  refine def_ok0 (N := N__law_goes) (body := _law_goes_B) T.F__law_goes sc__law_goes rfl (by decide) fun cdv A outer s H E hr => ?_
  unfold _law_goes_B
  exact (ss_cons (st_asgLcP (ps_setLc (i := 3) (own := [(("one" : Str), 4)]) rfl sc__law_goes.nd rfl rfl (sw_true rfl rfl rfl (by decide +kernel)) (piv_list (pv_lst (pa_pCons (pv_var 1 (pv 1)) (pa_pCons (pv_var 2 (pv 2)) pa_pNil)))) (show BlkOk N__law_goes (defScope s__law_goes) _ [(("one" : Str), 4)] from ⟨rfl, by decide +kernel, by decide +kernel, by decide +kernel, by decide +kernel⟩) (fun _ _ _ _ _ => (pgv_nm 4 (pg_name (i := 4) sc__law_goes.nd rfl (by first | exact Or.inl rfl | exact Or.inr rfl)))) (fun _ _ _ _ _ => (pts_one (PW.pt (ptw_or (ptv_cmp (op_eqD hr.units) ok_eq (pv_var 0 (pv 0)) (pv_lst pa_pNil) (nomark _)) (ptw_or1 (ptv_cmp op_ge ok_ge (pv_var 4 (pv 4)) (pv_ix (pv_var 0 (pv 0)) pv_int) (nomark _))))))) (fun _ _ _ _ _ => (pv_var 4 (pv 4)))))
    (ss_cons (st_if (tm_P (ptv_cmp (op_eqD hr.units) ok_eq (pv_var 3 (pv 3)) (pv_lst pa_pNil) (nomark _))) (ss_one (st_ret (em_P (pv_cmp op_lt ok_lt (pv_var 2 (pv 2)) (pv_var 1 (pv 1)) (nomark _))))) ss_nil)
    (ss_one (st_ret (em_P (pv_cmp (op_eqD hr.units) ok_eq (pv_callB (cr_min rfl) ok_minL (by rfl) T.n_min (by rfl) (pa_pCons (pv_var 3 (pv 3)) pa_pNil)) (pv_var 2 (pv 2)) (nomark _)))))))
theorem sc__law_spans : FnScope N__law_spans ["piles", "size"] (defScope s__law_spans) := ⟨rfl, rfl, rfl, by decide +kernel, rfl, by decide +kernel, by decide +kernel⟩
def _law_spans_L1 : SX := (asgS 2 false (mP (pOp2 gAdd2 (pVar 2) (pVar 3))))
def _law_spans_L2 : SX := (ifS (mtTru (callM md__law_goes _law_goes_D [.e (mP (pFz (pSlice (pVar 2) (pPart (pOpN (g2 gMax2) (pCons (pC (.int 0)) (pCons (pOp2 gSub' (pVar 7) (pC (.int 1))) pNil)))) (pPart (pVar 7))))), .e (mP (pOp2 gIx (pVar 2) (pVar 7))), .e (mP (pOp2 gIx (pVar 2) (pVar 5)))])) (asgS 6 false (mP (pOp2 gAdd2 (pVar 1) (pVar 7)))) passS)
def _law_spans_L3 : SX := (seqS (asgS 6 false (mP (pC (.int 0))))
    (seqS (forS (.nm 7) (mItR1 (mCons (mP (pVar 5)) mNil)) _law_spans_L2)
    (exS (mutR 4 gApp (mCons (mP (pOpN gTup (pCons (pVar 6) (pCons (pOpN (g2 gMin2) (pCons (pOp2 gSub' (pOpN (g1 gLen) (pCons (pVar 2) pNil)) (pC (.int 1))) (pCons (pOp2 gSub' (pOp2 gAdd2 (pVar 1) (pVar 5)) (pC (.int 1))) pNil))) pNil)))) mNil)))))
def _law_spans_B : SX := (seqS (asgS 2 false (mP (pFz (pOpN gLst pNil))))
    (seqS (forS (.nm 3) (mItL (mP (pVar 0))) _law_spans_L1)
    (seqS (asgS 4 false (mP (pOpN gLst pNil)))
    (seqS (forS (.nm 5) (mItR1 (mCons (mP (pOpN (g1 gLen) (pCons (pVar 2) pNil))) mNil)) _law_spans_L3)
    (rtS false (mMov 4))))))
def _law_spans_D : Fn := mkF md__law_spans 8 _law_spans_B
theorem ok__law_spans (T : Txt K mg) : FnOk P w K mg base CX0 2 T.a__law_spans T.d__law_spans ["piles", "size"] (spF md__law_spans _law_spans_D) := by
  refine def_ok0 (N := N__law_spans) (body := _law_spans_B) T.F__law_spans sc__law_spans rfl (by decide) fun cdv A outer s H E hr => ?_
  unfold _law_spans_B
  exact (ss_cons (st_asg (ps_set (i := 2) sc__law_spans.nd rfl (by first | exact Or.inl rfl | exact Or.inr rfl) (em_P (pv_fz (pv_lst pa_pNil)))) (fun q => q))
    (ss_cons (st_for PassesOwn.never rfl (im_list (em_P (pv_var 0 (pv 0)))) (pgv_nm 3 (pg_name (i := 3) sc__law_spans.nd rfl (by first | exact Or.inl rfl | exact Or.inr rfl))) (ss_one (st_asg (ps_set (i := 2) sc__law_spans.nd rfl (by first | exact Or.inl rfl | exact Or.inr rfl) (em_P (pv_bin op_add2 ok_add2 (pv_var 2 (pv 2)) (pv_var 3 (pv 3))))) (fun q => q))))
    (ss_cons (st_asg (ps_set (i := 4) sc__law_spans.nd rfl (by first | exact Or.inl rfl | exact Or.inr rfl) (em_P (pv_lst pa_pNil))) (fun q => q))
    (ss_cons (st_for PassesOwn.never rfl (im_rng1 (by rfl) T.n_range (am_cons (em_P (pv_callB call_len_seq ok_len (by rfl) T.n_len (by rfl) (pa_pCons (pv_var 2 (pv 2)) pa_pNil))) am_nil)) (pgv_nm 5 (pg_name (i := 5) sc__law_spans.nd rfl (by first | exact Or.inl rfl | exact Or.inr rfl))) (ss_cons (st_asg (ps_set (i := 6) sc__law_spans.nd rfl (by first | exact Or.inl rfl | exact Or.inr rfl) (em_P pv_int)) (fun q => q))
    (ss_cons (st_for PassesOwn.never rfl (im_rng1 (by rfl) T.n_range (am_cons (em_P (pv_var 5 (pv 5))) am_nil)) (pgv_nm 7 (pg_name (i := 7) sc__law_spans.nd rfl (by first | exact Or.inl rfl | exact Or.inr rfl))) (ss_one (st_if (tm_truth (em_call (ok__law_goes T) (hr.mono (by decide)) (by rfl) T.m__law_goes T.F__law_goes.kp T.b__law_goes pass0E (ag_e (em_P (pv_fz (pv_slice (pv_var 2 (pv 2)) (pov_some (pv_callB (call_max2 rfl) ok_max2 (by rfl) T.n_max (by rfl) (pa_pCons pv_int (pa_pCons (pv_bin op_sub ok_sub (pv_var 7 (pv 7)) pv_int) pa_pNil)))) (pov_some (pv_var 7 (pv 7)))))) (ag_e (em_P (pv_ix (pv_var 2 (pv 2)) (pv_var 7 (pv 7)))) (ag_e (em_P (pv_ix (pv_var 2 (pv 2)) (pv_var 5 (pv 5)))) ag_nil))))) (ss_one (st_asg (ps_set (i := 6) sc__law_spans.nd rfl (by first | exact Or.inl rfl | exact Or.inr rfl) (em_P (pv_bin op_add2 ok_add2 (pv_var 1 (pv 1)) (pv_var 7 (pv 7))))) (fun q => q))) ss_nil)))
    (ss_one (st_ex (em_mutR mop_app (id := "") (pe_bm PySem.F.plainAttrs_list PySem.F.slot_list_append PySem.F.type_list_append mt_append (pv 4) (am_cons (em_P (pv_tup' (pa_pCons (pv_var 6 (pv 6)) (pa_pCons (pv_callB (call_min2 rfl) ok_min2 (by rfl) T.n_min (by rfl) (pa_pCons (pv_bin op_sub ok_sub (pv_callB call_len_seq ok_len (by rfl) T.n_len (by rfl) (pa_pCons (pv_var 2 (pv 2)) pa_pNil)) pv_int) (pa_pCons (pv_bin op_sub ok_sub (pv_bin op_add2 ok_add2 (pv_var 1 (pv 1)) (pv_var 5 (pv 5))) pv_int) pa_pNil))) pa_pNil)))) am_nil))))))))
    (ss_one (st_ret (em_mov 4 (pv 4))))))))
theorem sc__law_cards : FnScope N__law_cards ["pool", "many"] (defScope s__law_cards) := ⟨rfl, rfl, rfl, by decide +kernel, rfl, by decide +kernel, by decide +kernel⟩
def _law_cards_L1 : SX := (exS (mutR 4 gIns (mCons (callM md__law_take _law_take_D [.m 0, .e (mP (pOp2 gAdd2 (pVar 5) (pC (.int 1))))]) (mCons (mP (pVar 5)) mNil))))
def _law_cards_B : SX := (seqS (asgS 2 false (mOp2 gIx (mP (pOpN gLst (pCons (pC (.int 1)) (pCons (pC (.int 3)) (pCons (pOp2 gPow (pC (.int 10)) (pC (.int 26))) pNil))))) (callM md__law_take _law_take_D [.m 0, .e (mP (pC (.int 3)))])))
    (seqS (asgS 3 false (mOp2 gIx (mP (pOpN gLst (pCons (pC (.int 0)) (pCons (pOp1 gNeg (pC (.int 4))) (pCons (pOp1 gNeg (pOp2 gPow (pC (.int 10)) (pC (.int 29)))) pNil))))) (callM md__law_take _law_take_D [.m 0, .e (mP (pC (.int 3)))])))
    (seqS (asgS 4 false (mP (pOpN gLst pNil)))
    (seqS (forS (.nm 5) (mItR1 (mCons (mP (pVar 1)) mNil)) _law_cards_L1)
    (rtS false (mP (pFz (pComp [5] (pItL (pVar 4)) (.nm 5) pYes .z (pOp2 gAdd2 (pVar 3) (pOp2 gMul2 (pOp2 gMul2 (pVar 2) (pVar 5)) (pVar 5)))))))))))
def _law_cards_D : Fn := mkF md__law_cards 6 _law_cards_B
theorem ok__law_cards (T : Txt K mg) : FnOk P w K mg base CX0 2 T.a__law_cards T.d__law_cards ["pool", "many"] (spF md__law_cards _law_cards_D) := by
  refine def_ok0 (N := N__law_cards) (body := _law_cards_B) T.F__law_cards sc__law_cards rfl (by decide) fun cdv A outer s H E hr => ?_
  unfold _law_cards_B
  exact (ss_cons (st_asg (ps_set (i := 2) sc__law_cards.nd rfl (by first | exact Or.inl rfl | exact Or.inr rfl) (em_ix (em_P (pv_lst (pa_pCons pv_int (pa_pCons pv_int (pa_pCons (pv_bin op_pow ok_pow pv_int pv_int) pa_pNil))))) (em_call (ok__law_take T) (hr.mono (by decide)) (by rfl) T.m__law_take T.F__law_take.kp T.b__law_take pass0E (ag_m 0 (pv 0) (ag_e (em_P pv_int) ag_nil))))) (fun q => q))
    (ss_cons (st_asg (ps_set (i := 3) sc__law_cards.nd rfl (by first | exact Or.inl rfl | exact Or.inr rfl) (em_ix (em_P (pv_lst (pa_pCons pv_int (pa_pCons (pv_un un_neg ok_neg pv_int) (pa_pCons (pv_un un_neg ok_neg (pv_bin op_pow ok_pow pv_int pv_int)) pa_pNil))))) (em_call (ok__law_take T) (hr.mono (by decide)) (by rfl) T.m__law_take T.F__law_take.kp T.b__law_take pass0E (ag_m 0 (pv 0) (ag_e (em_P pv_int) ag_nil))))) (fun q => q))
    (ss_cons (st_asg (ps_set (i := 4) sc__law_cards.nd rfl (by first | exact Or.inl rfl | exact Or.inr rfl) (em_P (pv_lst pa_pNil))) (fun q => q))
    (ss_cons (st_for PassesOwn.never rfl (im_rng1 (by rfl) T.n_range (am_cons (em_P (pv_var 1 (pv 1))) am_nil)) (pgv_nm 5 (pg_name (i := 5) sc__law_cards.nd rfl (by first | exact Or.inl rfl | exact Or.inr rfl))) (ss_one (st_ex (em_mutR mop_ins (id := "") (pe_bm PySem.F.plainAttrs_list PySem.F.slot_list_insert PySem.F.type_list_insert mt_insert (pv 4) (am_cons (em_call (ok__law_take T) (hr.mono (by decide)) (by rfl) T.m__law_take T.F__law_take.kp T.b__law_take pass0E (ag_m 0 (pv 0) (ag_e (em_P (pv_bin op_add2 ok_add2 (pv_var 5 (pv 5)) pv_int)) ag_nil))) (am_cons (em_P (pv_var 5 (pv 5))) am_nil)))))))
    (ss_one (st_ret (em_P (pv_fz (pv_lc (it := fun _ => none) (own := [(("k" : Str), 5)]) rfl sc__law_cards.nd (piv_list (pv_var 4 (pv 4))) (show BlkOk N__law_cards (defScope s__law_cards) _ [(("k" : Str), 5)] from ⟨rfl, by decide +kernel, by decide +kernel, by decide +kernel, by decide +kernel⟩) (fun _ _ _ _ _ => (pgv_nm 5 (pg_name (i := 5) sc__law_cards.nd rfl (by first | exact Or.inl rfl | exact Or.inr rfl)))) (fun _ _ _ _ _ => pts_yes) (fun _ _ _ _ _ => (pv_bin op_add2 ok_add2 (pv_var 3 (pv 3)) (pv_bin op_mul2 ok_mul2 (pv_bin op_mul2 ok_mul2 (pv_var 2 (pv 2)) (pv_var 5 (pv 5))) (pv_var 5 (pv 5))))))))))))))
theorem sc__law_way : FnScope N__law_way ["cards", "size"] (defScope s__law_way) := ⟨rfl, rfl, rfl, by decide +kernel, rfl, by decide +kernel, by decide +kernel⟩
def _law_way_L1 : SX := (ifS (mtP (pTst (pOp2 gLt (pOp2 gIx (pVar 0) (pVar 3)) (pOp2 gIx (pVar 0) (pVar 9))))) (asgS 9 false (mP (pVar 3))) passS)
def _law_way_L2 : SX := (seqS (asgS 8 true (mP (pComp [3] (pItL (pVar 2)) (.nm 3) (pOr (pTst (pOp2 (gEq false) (pVar 5) (pOpN gLst pNil))) (pTst (pOp2 gGe (pOp2 gIx (pVar 0) (pVar 3)) (pOp2 gIx (pVar 0) (pOp2 gIx (pOp2 gIx (pVar 5) (pOp1 gNeg (pC (.int 1)))) (pC (.int 0))))))) .z (pVar 3))))
    (seqS (ifS (mtP (pTst (pOp2 (gEq false) (pVar 8) (pOpN gLst pNil)))) (seqS (asgS 6 false (mP (pOp2 gAdd2 (pVar 6) (pC (.int 1)))))
    (asgS 8 false (mP (pFz (pOpN (g1 gList) (pCons (pVar 2) pNil)))))) passS)
    (seqS (asgS 9 false (mP (pOp2 gIx (pVar 8) (pC (.int 0)))))
    (seqS (forS (.nm 3) (mItL (mP (pVar 8))) _law_way_L1)
    (seqS (exS (mutR 5 gApp (mCons (mP (pOpN gTup (pCons (pVar 9) (pCons (pVar 6) pNil)))) mNil)))
    (seqS (exS (mutR 2 gRem (mCons (mP (pVar 9)) mNil)))
    (ifS (mtP (pTst (pOp2 gLt (pVar 4) (pOpN (g1 gLen) (pCons (pVar 0) pNil))))) (seqS (exS (mutR 2 gApp (mCons (mP (pVar 4)) mNil)))
    (asgS 4 false (mP (pOp2 gAdd2 (pVar 4) (pC (.int 1)))))) passS)))))))
def _law_way_B : SX := (seqS (asgS 2 false (mP (pComp [3] (pItR1 (pCons (pOpN (g2 gMin2) (pCons (pVar 1) (pCons (pOpN (g1 gLen) (pCons (pVar 0) pNil)) pNil))) pNil)) (.nm 3) pYes .z (pVar 3))))
    (seqS (asgS 4 false (mP (pOpN (g1 gLen) (pCons (pVar 2) pNil))))
    (seqS (asgS 5 false (mP (pOpN gLst pNil)))
    (seqS (asgS 6 false (mP (pC (.int 0))))
    (seqS (forS (.nm 7) (mItR1 (mCons (mP (pOpN (g1 gLen) (pCons (pVar 0) pNil))) mNil)) _law_way_L2)
    (rtS false (mMov 5)))))))
def _law_way_D : Fn := mkF md__law_way 10 _law_way_B
theorem ok__law_way (T : Txt K mg) : FnOk P w K mg base CX0 1 T.a__law_way T.d__law_way ["cards", "size"] (spF md__law_way _law_way_D) := by
  refine def_ok0 (N := N__law_way) (body := _law_way_B) T.F__law_way sc__law_way rfl (by decide) fun cdv A outer s H E hr => ?_
  unfold _law_way_B
  exact (ss_cons (st_asgLcP (ps_setLc (i := 2) (own := [(("k" : Str), 3)]) rfl sc__law_way.nd rfl rfl (sw_true rfl rfl rfl (by decide +kernel)) (piv_rng1 (by rfl) T.n_range (pa_pCons (pv_callB (call_min2 rfl) ok_min2 (by rfl) T.n_min (by rfl) (pa_pCons (pv_var 1 (pv 1)) (pa_pCons (pv_callB call_len_seq ok_len (by rfl) T.n_len (by rfl) (pa_pCons (pv_var 0 (pv 0)) pa_pNil)) pa_pNil))) pa_pNil)) (show BlkOk N__law_way (defScope s__law_way) _ [(("k" : Str), 3)] from ⟨rfl, by decide +kernel, by decide +kernel, by decide +kernel, by decide +kernel⟩) (fun _ _ _ _ _ => (pgv_nm 3 (pg_name (i := 3) sc__law_way.nd rfl (by first | exact Or.inl rfl | exact Or.inr rfl)))) (fun _ _ _ _ _ => pts_yes) (fun _ _ _ _ _ => (pv_var 3 (pv 3)))))
    (ss_cons (st_asg (ps_set (i := 4) sc__law_way.nd rfl (by first | exact Or.inl rfl | exact Or.inr rfl) (em_P (pv_callB call_len_seq ok_len (by rfl) T.n_len (by rfl) (pa_pCons (pv_var 2 (pv 2)) pa_pNil)))) (fun q => q))
    (ss_cons (st_asg (ps_set (i := 5) sc__law_way.nd rfl (by first | exact Or.inl rfl | exact Or.inr rfl) (em_P (pv_lst pa_pNil))) (fun q => q))
    (ss_cons (st_asg (ps_set (i := 6) sc__law_way.nd rfl (by first | exact Or.inl rfl | exact Or.inr rfl) (em_P pv_int)) (fun q => q))
    (ss_cons (st_for PassesOwn.never rfl (im_rng1 (by rfl) T.n_range (am_cons (em_P (pv_callB call_len_seq ok_len (by rfl) T.n_len (by rfl) (pa_pCons (pv_var 0 (pv 0)) pa_pNil))) am_nil)) (pgv_nm 7 (pg_name (i := 7) sc__law_way.nd rfl (by first | exact Or.inl rfl | exact Or.inr rfl))) (ss_cons (st_asgLcP (ps_setLc (i := 8) (own := [(("k" : Str), 3)]) rfl sc__law_way.nd rfl rfl (sw_true rfl rfl rfl (by decide +kernel)) (piv_list (pv_var 2 (pv 2))) (show BlkOk N__law_way (defScope s__law_way) _ [(("k" : Str), 3)] from ⟨rfl, by decide +kernel, by decide +kernel, by decide +kernel, by decide +kernel⟩) (fun _ _ _ _ _ => (pgv_nm 3 (pg_name (i := 3) sc__law_way.nd rfl (by first | exact Or.inl rfl | exact Or.inr rfl)))) (fun _ _ _ _ _ => (pts_one (PW.pt (ptw_or (ptv_cmp (op_eqD hr.units) ok_eq (pv_var 5 (pv 5)) (pv_lst pa_pNil) (nomark _)) (ptw_or1 (ptv_cmp op_ge ok_ge (pv_ix (pv_var 0 (pv 0)) (pv_var 3 (pv 3))) (pv_ix (pv_var 0 (pv 0)) (pv_ix (pv_ix (pv_var 5 (pv 5)) (pv_un un_neg ok_neg pv_int)) pv_int)) (nomark _))))))) (fun _ _ _ _ _ => (pv_var 3 (pv 3)))))
    (ss_cons (st_if (tm_P (ptv_cmp (op_eqD hr.units) ok_eq (pv_var 8 (pv 8)) (pv_lst pa_pNil) (nomark _))) (ss_cons (st_asg (ps_set (i := 6) sc__law_way.nd rfl (by first | exact Or.inl rfl | exact Or.inr rfl) (em_P (pv_bin op_add2 ok_add2 (pv_var 6 (pv 6)) pv_int))) (fun q => q))
    (ss_one (st_asg (ps_set (i := 8) sc__law_way.nd rfl (by first | exact Or.inl rfl | exact Or.inr rfl) (em_P (pv_fz (pv_callTy call_list_of ok_list (by rfl) T.n_list (by rfl) (pa_pCons (pv_var 2 (pv 2)) pa_pNil))))) (fun q => q)))) ss_nil)
    (ss_cons (st_asg (ps_set (i := 9) sc__law_way.nd rfl (by first | exact Or.inl rfl | exact Or.inr rfl) (em_P (pv_ix (pv_var 8 (pv 8)) pv_int))) (fun q => q))
    (ss_cons (st_for PassesOwn.never rfl (im_list (em_P (pv_var 8 (pv 8)))) (pgv_nm 3 (pg_name (i := 3) sc__law_way.nd rfl (by first | exact Or.inl rfl | exact Or.inr rfl))) (ss_one (st_if (tm_P (ptv_cmp op_lt ok_lt (pv_ix (pv_var 0 (pv 0)) (pv_var 3 (pv 3))) (pv_ix (pv_var 0 (pv 0)) (pv_var 9 (pv 9))) (nomark _))) (ss_one (st_asg (ps_set (i := 9) sc__law_way.nd rfl (by first | exact Or.inl rfl | exact Or.inr rfl) (em_P (pv_var 3 (pv 3)))) (fun q => q))) ss_nil)))
    (ss_cons (st_ex (em_mutR mop_app (id := "") (pe_bm PySem.F.plainAttrs_list PySem.F.slot_list_append PySem.F.type_list_append mt_append (pv 5) (am_cons (em_P (pv_tup' (pa_pCons (pv_var 9 (pv 9)) (pa_pCons (pv_var 6 (pv 6)) pa_pNil)))) am_nil))))
    (ss_cons (st_ex (em_mutR mop_rem (id := "") (pe_bm PySem.F.plainAttrs_list PySem.F.slot_list_remove PySem.F.type_list_remove mt_remove (pv 2) (am_cons (em_P (pv_var 9 (pv 9))) am_nil))))
    (ss_one (st_if (tm_P (ptv_cmp op_lt ok_lt (pv_var 4 (pv 4)) (pv_callB call_len_seq ok_len (by rfl) T.n_len (by rfl) (pa_pCons (pv_var 0 (pv 0)) pa_pNil)) (nomark _))) (ss_cons (st_ex (em_mutR mop_app (id := "") (pe_bm PySem.F.plainAttrs_list PySem.F.slot_list_append PySem.F.type_list_append mt_append (pv 2) (am_cons (em_P (pv_var 4 (pv 4))) am_nil))))
    (ss_one (st_asg (ps_set (i := 4) sc__law_way.nd rfl (by first | exact Or.inl rfl | exact Or.inr rfl) (em_P (pv_bin op_add2 ok_add2 (pv_var 4 (pv 4)) pv_int))) (fun q => q)))) ss_nil)))))))))
    (ss_one (st_ret (em_mov 5 (pv 5)))))))))
theorem sc__law_piles : FnScope N__law_piles ["cards", "size"] (defScope s__law_piles) := ⟨rfl, rfl, rfl, by decide +kernel, rfl, by decide +kernel, by decide +kernel⟩
def _law_piles_L1 : SX := (seqS (ifS (mtP (pTst (pOp2 (gEq false) (pVar 4) (pOpN (g1 gLen) (pCons (pVar 2) pNil))))) (exS (mutR 2 gApp (mCons (mP (pOpN gLst pNil)) mNil))) passS)
    (exS (mutP 2 (pthIx 2 pthR (pVar 4)) gApp (pCons (pOp2 gIx (pVar 0) (pVar 3)) pNil))))
def _law_piles_B : SX := (seqS (asgS 2 false (mLstK (.all .z) mNil))
    (seqS (forS (.tp [(.nm 3), (.nm 4)]) (mItL (callM md__law_way _law_way_D [.v 0, .v 1])) _law_piles_L1)
    (rtS false (mMov 2))))
def _law_piles_D : Fn := mkF md__law_piles 5 _law_piles_B
theorem ok__law_piles (T : Txt K mg) : FnOk P w K mg base CX0 2 T.a__law_piles T.d__law_piles ["cards", "size"] (spF md__law_piles _law_piles_D) := by
  refine def_ok0 (N := N__law_piles) (body := _law_piles_B) T.F__law_piles sc__law_piles rfl (by decide) fun cdv A outer s H E hr => ?_
  unfold _law_piles_B
  exact (ss_cons (st_asg (ps_set (i := 2) sc__law_piles.nd rfl (by first | exact Or.inl rfl | exact Or.inr rfl) (em_lstK (.all .z) am_nil)) (fun q => q))
    (ss_cons (st_for PassesOwn.never rfl (im_list (em_call (ok__law_way T) (hr.mono (by decide)) (by rfl) T.m__law_way T.F__law_way.kp T.b__law_way pass0E (ag_v 0 (pv 0) (ag_v 1 (pv 1) ag_nil)))) (pgv_tp 2 rfl (pg_tup rfl (pgsv_cons (pgv_nm 3 (pg_name (i := 3) sc__law_piles.nd rfl (by first | exact Or.inl rfl | exact Or.inr rfl))) (pgsv_cons (pgv_nm 4 (pg_name (i := 4) sc__law_piles.nd rfl (by first | exact Or.inl rfl | exact Or.inr rfl))) pgsv_nil (pgs_cons (pgv_nm 4 (pg_name (i := 4) sc__law_piles.nd rfl (by first | exact Or.inl rfl | exact Or.inr rfl))) pgsv_nil)) (pgs_cons (pgv_nm 3 (pg_name (i := 3) sc__law_piles.nd rfl (by first | exact Or.inl rfl | exact Or.inr rfl))) (pgsv_cons (pgv_nm 4 (pg_name (i := 4) sc__law_piles.nd rfl (by first | exact Or.inl rfl | exact Or.inr rfl))) pgsv_nil (pgs_cons (pgv_nm 4 (pg_name (i := 4) sc__law_piles.nd rfl (by first | exact Or.inl rfl | exact Or.inr rfl))) pgsv_nil)))))) (ss_cons (st_if (tm_P (ptv_cmp (op_eqD hr.units) ok_eq (pv_var 4 (pv 4)) (pv_callB call_len_seq ok_len (by rfl) T.n_len (by rfl) (pa_pCons (pv_var 2 (pv 2)) pa_pNil)) (nomark _))) (ss_one (st_ex (em_mutR mop_app (id := "") (pe_bm PySem.F.plainAttrs_list PySem.F.slot_list_append PySem.F.type_list_append mt_append (pv 2) (am_cons (em_P (pv_lst pa_pNil)) am_nil))))) ss_nil)
    (ss_one (st_ex (em_mutP mop_app (pe_bm PySem.F.plainAttrs_list PySem.F.slot_list_append PySem.F.type_list_append mt_append (pth_Ix (pth_R (pv 2)) (pv_var 4 (pv 4))) (pa_pCons (pv_ix (pv_var 0 (pv 0)) (pv_var 3 (pv 3))) pa_pNil)))))))
    (ss_one (st_ret (em_mov 2 (pv 2))))))
theorem sc__law_told : FnScope N__law_told ["pool", "many"] (defScope s__law_told) := ⟨rfl, rfl, rfl, by decide +kernel, rfl, by decide +kernel, by decide +kernel⟩
def _law_told_B : SX := (seqS (asgS 2 false (mOp2 gAdd2 (mP (pC (.int 1))) (callM md__law_take _law_take_D [.m 0, .e (mP (pC (.int 4)))])))
    (seqS (asgS 2 false (mOp2 gIx (mP (pOpN gLst (pCons (pC (.int 1)) (pCons (pVar 2) (pCons (pVar 1) pNil))))) (callM md__law_take _law_take_D [.m 0, .e (mP (pC (.int 3)))])))
    (seqS (asgS 3 false (callM md__law_cards _law_cards_D [.m 0, .v 1]))
    (rtS false (mOpN gTup (mCons (callM md__law_piles _law_piles_D [.v 3, .e (mP (pOpN (g2 gMax2) (pCons (pC (.int 1)) (pCons (pVar 2) pNil))))]) (mCons (mP (pOpN (g2 gMax2) (pCons (pC (.int 1)) (pCons (pVar 2) pNil)))) mNil)))))))
def _law_told_D : Fn := mkF md__law_told 4 _law_told_B
theorem ok__law_told (T : Txt K mg) : FnOk P w K mg base CX0 3 T.a__law_told T.d__law_told ["pool", "many"] (spF md__law_told _law_told_D) := by
  refine def_ok0 (N := N__law_told) (body := _law_told_B) T.F__law_told sc__law_told rfl (by decide) fun cdv A outer s H E hr => ?_
  unfold _law_told_B
  exact (ss_cons (st_asg (ps_set (i := 2) sc__law_told.nd rfl (by first | exact Or.inl rfl | exact Or.inr rfl) (em_bin op_add2 ok_add2 (em_P pv_int) (em_call (ok__law_take T) (hr.mono (by decide)) (by rfl) T.m__law_take T.F__law_take.kp T.b__law_take pass0E (ag_m 0 (pv 0) (ag_e (em_P pv_int) ag_nil))))) (fun q => q))
    (ss_cons (st_asg (ps_set (i := 2) sc__law_told.nd rfl (by first | exact Or.inl rfl | exact Or.inr rfl) (em_ix (em_P (pv_lst (pa_pCons pv_int (pa_pCons (pv_var 2 (pv 2)) (pa_pCons (pv_var 1 (pv 1)) pa_pNil))))) (em_call (ok__law_take T) (hr.mono (by decide)) (by rfl) T.m__law_take T.F__law_take.kp T.b__law_take pass0E (ag_m 0 (pv 0) (ag_e (em_P pv_int) ag_nil))))) (fun q => q))
    (ss_cons (st_asg (ps_set (i := 3) sc__law_told.nd rfl (by first | exact Or.inl rfl | exact Or.inr rfl) (em_call (ok__law_cards T) (hr.mono (by decide)) (by rfl) T.m__law_cards T.F__law_cards.kp T.b__law_cards pass0E (ag_m 0 (pv 0) (ag_v 1 (pv 1) ag_nil)))) (fun q => q))
    (ss_one (st_ret (em_tup (am_cons (em_call (ok__law_piles T) (hr.mono (by decide)) (by rfl) T.m__law_piles T.F__law_piles.kp T.b__law_piles pass0E (ag_v 3 (pv 3) (ag_e (em_P (pv_callB (call_max2 rfl) ok_max2 (by rfl) T.n_max (by rfl) (pa_pCons pv_int (pa_pCons (pv_var 2 (pv 2)) pa_pNil)))) ag_nil))) (am_cons (em_P (pv_callB (call_max2 rfl) ok_max2 (by rfl) T.n_max (by rfl) (pa_pCons pv_int (pa_pCons (pv_var 2 (pv 2)) pa_pNil)))) am_nil))))))))
theorem sc_check_hand : FnScope N_check_hand ["hand"] (defScope s_check_hand) := ⟨rfl, rfl, rfl, by decide +kernel, rfl, by decide +kernel, by decide +kernel⟩
def check_hand_B : SX := (ifS (mtP (pTst (pOp2 gLt (pVar 0) (pC (.int 1))))) neverS passS)
def check_hand_D : Fn := mkF md_check_hand 1 check_hand_B
theorem ok_check_hand (T : Txt K mg) : FnOk P w K mg base CX0 1 T.a_check_hand T.d_check_hand ["hand"] (spF md_check_hand check_hand_D) := by
  refine def_ok0 (N := N_check_hand) (body := check_hand_B) T.F_check_hand sc_check_hand rfl (by decide) fun cdv A outer s H E hr => ?_
  unfold check_hand_B
  exact (ss_one (st_if (tm_P (ptv_cmp op_lt ok_lt (pv_var 0 (pv 0)) pv_int (nomark _))) (ss_one st_never) ss_nil))
theorem sc_check_piles : FnScope N_check_piles ["told"] (defScope s_check_piles) := ⟨rfl, rfl, rfl, by decide +kernel, rfl, by decide +kernel, by decide +kernel⟩
def check_piles_L1 : SX := (seqS (ifS (mtP (pOr (pNot (pTru (pVar 2))) (pTst (pOp2 (gEq true) (pVar 2) (pOpN (g1 gSortI) (pCons (pVar 2) pNil)))))) neverS passS)
    (ifS (mtP (pAnd (pTst (pOp2 gGt (pVar 1) (pC (.int 0)))) (pTst (pOp2 gGt (pOp2 gIx (pVar 2) (pC (.int 0))) (pOp2 gIx (pOp2 gIx (pVar 0) (pOp2 gSub' (pVar 1) (pC (.int 1)))) (pOp1 gNeg (pC (.int 1)))))))) neverS passS))
def check_piles_B : SX := (forS (.tp [(.nm 1), (.nm 2)]) (mItE (mCons (mP (pVar 0)) mNil)) check_piles_L1)
def check_piles_D : Fn := mkF md_check_piles 3 check_piles_B
theorem ok_check_piles (T : Txt K mg) : FnOk P w K mg base CX0 1 T.a_check_piles T.d_check_piles ["told"] (spF md_check_piles check_piles_D) := by
  refine def_ok0 (N := N_check_piles) (body := check_piles_B) T.F_check_piles sc_check_piles rfl (by decide) fun cdv A outer s H E hr => ?_
  unfold check_piles_B
  exact (ss_one (st_for PassesOwn.never rfl (im_enum (by rfl) T.n_enumerate (am_cons (em_P (pv_var 0 (pv 0))) am_nil)) (pgv_tp 2 rfl (pg_tup rfl (pgsv_cons (pgv_nm 1 (pg_name (i := 1) sc_check_piles.nd rfl (by first | exact Or.inl rfl | exact Or.inr rfl))) (pgsv_cons (pgv_nm 2 (pg_name (i := 2) sc_check_piles.nd rfl (by first | exact Or.inl rfl | exact Or.inr rfl))) pgsv_nil (pgs_cons (pgv_nm 2 (pg_name (i := 2) sc_check_piles.nd rfl (by first | exact Or.inl rfl | exact Or.inr rfl))) pgsv_nil)) (pgs_cons (pgv_nm 1 (pg_name (i := 1) sc_check_piles.nd rfl (by first | exact Or.inl rfl | exact Or.inr rfl))) (pgsv_cons (pgv_nm 2 (pg_name (i := 2) sc_check_piles.nd rfl (by first | exact Or.inl rfl | exact Or.inr rfl))) pgsv_nil (pgs_cons (pgv_nm 2 (pg_name (i := 2) sc_check_piles.nd rfl (by first | exact Or.inl rfl | exact Or.inr rfl))) pgsv_nil)))))) (ss_cons (st_if (tm_P (PW.pt (ptw_or (ptv_not (ptv_truth (pv_var 2 (pv 2)))) (ptw_or1 (ptv_cmp (op_neD hr.units) ok_ne (pv_var 2 (pv 2)) (pv_callB cr_sortedI ok_sortI (by rfl) T.n_sorted (by rfl) (pa_pCons (pv_var 2 (pv 2)) pa_pNil)) (nomark _)))))) (ss_one st_never) ss_nil)
    (ss_one (st_if (tm_P (PW.pt (ptw_and (ptv_cmp op_gt ok_gt (pv_var 1 (pv 1)) pv_int (nomark _)) (ptw_and1 (ptv_cmp op_gt ok_gt (pv_ix (pv_var 2 (pv 2)) pv_int) (pv_ix (pv_ix (pv_var 0 (pv 0)) (pv_bin op_sub ok_sub (pv_var 1 (pv 1)) pv_int)) (pv_un un_neg ok_neg pv_int)) (nomark _)))))) (ss_one st_never) ss_nil)))))
theorem sc_goes_ahead : FnScope N_goes_ahead ["card", "told", "index", "begins"] (defScope s_goes_ahead) := ⟨rfl, rfl, rfl, by decide +kernel, rfl, by decide +kernel, by decide +kernel⟩
def goes_ahead_B : SX := (seqS (ifS (mtP (pTst (pOp2 (gEq false) (pVar 2) (pC (.int 0))))) (rtS false (mP (pOp2 gLt (pVar 0) (pOp2 gIx (pVar 1) (pC (.int 0)))))) passS)
    (seqS (ifS (mtP (pTru (pVar 3))) (rtS false (mP (pOrV (pOp2 gLt (pVar 0) (pOp2 gIx (pVar 1) (pVar 2))) (pOp2 gGe (pVar 0) (pOp2 gIx (pVar 1) (pOp2 gSub' (pVar 2) (pC (.int 1)))))))) passS)
    (rtS false (mP (pChain gLe gLt (pOp2 gIx (pVar 1) (pOp2 gSub' (pVar 2) (pC (.int 1)))) (pVar 0) (pOp2 gIx (pVar 1) (pVar 2)))))))
def goes_ahead_D : Fn := mkF md_goes_ahead 4 goes_ahead_B
theorem ok_goes_ahead (T : Txt K mg) : FnOk P w K mg base CX0 1 T.a_goes_ahead T.d_goes_ahead ["card", "told", "index", "begins"] (spF md_goes_ahead goes_ahead_D) := by
  refine def_ok0 (N := N_goes_ahead) (body := goes_ahead_B) T.F_goes_ahead sc_goes_ahead rfl (by decide) fun cdv A outer s H E hr => ?_
  unfold goes_ahead_B
  exact (ss_cons (st_if (tm_P (ptv_cmp (op_eqD hr.units) ok_eq (pv_var 2 (pv 2)) pv_int (nomark _))) (ss_one (st_ret (em_P (pv_cmp op_lt ok_lt (pv_var 0 (pv 0)) (pv_ix (pv_var 1 (pv 1)) pv_int) (nomark _))))) ss_nil)
    (ss_cons (st_if (tm_P (ptv_truth (pv_var 3 (pv 3)))) (ss_one (st_ret (em_P (pv_or (pv_cmp op_lt ok_lt (pv_var 0 (pv 0)) (pv_ix (pv_var 1 (pv 1)) (pv_var 2 (pv 2))) (nomark _)) (pv_one (pv_cmp op_ge ok_ge (pv_var 0 (pv 0)) (pv_ix (pv_var 1 (pv 1)) (pv_bin op_sub ok_sub (pv_var 2 (pv 2)) pv_int)) (nomark _))))))) ss_nil)
    (ss_one (st_ret (em_P (pv_chain op_le ok_le op_lt ok_lt (pv_ix (pv_var 1 (pv 1)) (pv_bin op_sub ok_sub (pv_var 2 (pv 2)) pv_int)) (pv_var 0 (pv 0)) (pv_ix (pv_var 1 (pv 1)) (pv_var 2 (pv 2)))))))))
theorem sc_joined : FnScope N_joined ["told"] (defScope s_joined) := ⟨rfl, rfl, rfl, by decide +kernel, rfl, by decide +kernel, by decide +kernel⟩
def joined_B : SX := (rtS false (mP (pFz (pComp2 [1, 2] (pItL (pVar 0)) (.nm 1) pYes [2] (pItL0 (pVar 1)) (.nm 2) pYes .z (pVar 2)))))
def joined_D : Fn := mkF md_joined 3 joined_B
theorem ok_joined (T : Txt K mg) : FnOk P w K mg base CX0 1 T.a_joined T.d_joined ["told"] (spF md_joined joined_D) := by
  refine def_ok0 (N := N_joined) (body := joined_B) T.F_joined sc_joined rfl (by decide) fun cdv A outer s H E hr => ?_
  unfold joined_B
  exact (ss_one (st_ret (em_P (pv_fz (pv_lc2 (own := [(("pile" : Str), 1), (("card" : Str), 2)]) (own1 := [2]) rfl sc_joined.nd (piv_list (pv_var 0 (pv 0))) (show BlkOk N_joined (defScope s_joined) _ [(("pile" : Str), 1), (("card" : Str), 2)] from ⟨rfl, by decide +kernel, by decide +kernel, by decide +kernel, by decide +kernel⟩) (by decide) (fun _ _ _ _ _ => (pgv_nm 1 (pg_name (i := 1) sc_joined.nd rfl (by first | exact Or.inl rfl | exact Or.inr rfl)))) (fun _ _ _ _ _ => pts_yes) (fun _ _ _ _ _ => (pi0_list (pv_var 1 (pv 1)))) (fun _ _ _ _ _ => (pgv_nm 2 (pg_name (i := 2) sc_joined.nd rfl (by first | exact Or.inl rfl | exact Or.inr rfl)))) (fun _ _ _ _ _ => pts_yes) (fun _ _ _ _ _ => (pv_var 2 (pv 2))))))))
theorem sc_windows : FnScope N_windows ["told", "hand"] (defScope s_windows) := ⟨rfl, rfl, rfl, by decide +kernel, rfl, by decide +kernel, by decide +kernel⟩
def windows_L1 : SX := (ifS (mtTru (callM md_goes_ahead goes_ahead_D [.v 8, .v 2, .v 5, .e (mP (pOp2 gIx (pVar 3) (pVar 5)))])) (asgS 9 false (mP (pOp2 gAdd2 (pVar 1) (pVar 5)))) passS)
def windows_L2 : SX := (seqS (asgS 9 false (mP (pC (.int 0))))
    (seqS (forS (.nm 5) (mItR1 (mCons (mP (pVar 7)) mNil)) windows_L1)
    (exS (mutR 6 gApp (mCons (mP (pOpN gTup (pCons (pVar 9) (pCons (pOp2 gSub' (pOpN (g2 gMin2) (pCons (pOpN (g1 gLen) (pCons (pVar 2) pNil)) (pCons (pOp2 gAdd2 (pVar 1) (pVar 7)) pNil))) (pC (.int 1))) pNil)))) mNil)))))
def windows_B : SX := (seqS (exS (callM md_check_piles check_piles_D [.v 0]))
    (seqS (exS (callM md_check_hand check_hand_D [.v 1]))
    (seqS (asgS 2 false (callM md_joined joined_D [.v 0]))
    (seqS (asgS 3 true (mP (pComp2 [4, 5] (pItL (pVar 0)) (.nm 4) pYes [5] (pItR1 (pCons (pOpN (g1 gLen) (pCons (pVar 4) pNil)) pNil)) (.nm 5) pYes .z (pOp2 (gEq false) (pVar 5) (pC (.int 0))))))
    (seqS (asgS 6 false (mP (pOpN gLst pNil)))
    (seqS (forS (.tp [(.nm 7), (.nm 8)]) (mItE (mCons (mP (pVar 2)) mNil)) windows_L2)
    (rtS false (mMov 6))))))))
def windows_D : Fn := mkF md_windows 10 windows_B
theorem ok_windows (T : Txt K mg) : FnOk P w K mg base CX0 2 T.a_windows T.d_windows ["told", "hand"] (spF md_windows windows_D) := by
  refine def_ok0 (N := N_windows) (body := windows_B) T.F_windows sc_windows rfl (by decide) fun cdv A outer s H E hr => ?_
  unfold windows_B
  exact (ss_cons (st_ex (em_call (ok_check_piles T) (hr.mono (by decide)) (by rfl) T.m_check_piles T.F_check_piles.kp T.b_check_piles pass0E (ag_v 0 (pv 0) ag_nil)))
    (ss_cons (st_ex (em_call (ok_check_hand T) (hr.mono (by decide)) (by rfl) T.m_check_hand T.F_check_hand.kp T.b_check_hand pass0E (ag_v 1 (pv 1) ag_nil)))
    (ss_cons (st_asg (ps_set (i := 2) sc_windows.nd rfl (by first | exact Or.inl rfl | exact Or.inr rfl) (em_call (ok_joined T) (hr.mono (by decide)) (by rfl) T.m_joined T.F_joined.kp T.b_joined pass0E (ag_v 0 (pv 0) ag_nil))) (fun q => q))
    (ss_cons (st_asgLc2 (ps_setLc2 (i := 3) (own := [(("pile" : Str), 4), (("index" : Str), 5)]) (vs1 := [5]) rfl sc_windows.nd rfl rfl (sw_true rfl rfl rfl (by decide +kernel)) (piv_list (pv_var 0 (pv 0))) (show BlkOk N_windows (defScope s_windows) _ [(("pile" : Str), 4), (("index" : Str), 5)] from ⟨rfl, by decide +kernel, by decide +kernel, by decide +kernel, by decide +kernel⟩) (by decide) (fun _ _ _ _ _ => (pgv_nm 4 (pg_name (i := 4) sc_windows.nd rfl (by first | exact Or.inl rfl | exact Or.inr rfl)))) (fun _ _ _ _ _ => pts_yes) (fun _ _ _ _ _ => (pi0_rng1 (by rfl) T.n_range (pa_pCons (pv_callB call_len_seq ok_len (by rfl) T.n_len (by rfl) (pa_pCons (pv_var 4 (pv 4)) pa_pNil)) pa_pNil))) (fun _ _ _ _ _ => (pgv_nm 5 (pg_name (i := 5) sc_windows.nd rfl (by first | exact Or.inl rfl | exact Or.inr rfl)))) (fun _ _ _ _ _ => pts_yes) (fun _ _ _ _ _ => (pv_cmp (op_eqD hr.units) ok_eq (pv_var 5 (pv 5)) pv_int (nomark _)))))
    (ss_cons (st_asg (ps_set (i := 6) sc_windows.nd rfl (by first | exact Or.inl rfl | exact Or.inr rfl) (em_P (pv_lst pa_pNil))) (fun q => q))
    (ss_cons (st_for PassesOwn.never rfl (im_enum (by rfl) T.n_enumerate (am_cons (em_P (pv_var 2 (pv 2))) am_nil)) (pgv_tp 2 rfl (pg_tup rfl (pgsv_cons (pgv_nm 7 (pg_name (i := 7) sc_windows.nd rfl (by first | exact Or.inl rfl | exact Or.inr rfl))) (pgsv_cons (pgv_nm 8 (pg_name (i := 8) sc_windows.nd rfl (by first | exact Or.inl rfl | exact Or.inr rfl))) pgsv_nil (pgs_cons (pgv_nm 8 (pg_name (i := 8) sc_windows.nd rfl (by first | exact Or.inl rfl | exact Or.inr rfl))) pgsv_nil)) (pgs_cons (pgv_nm 7 (pg_name (i := 7) sc_windows.nd rfl (by first | exact Or.inl rfl | exact Or.inr rfl))) (pgsv_cons (pgv_nm 8 (pg_name (i := 8) sc_windows.nd rfl (by first | exact Or.inl rfl | exact Or.inr rfl))) pgsv_nil (pgs_cons (pgv_nm 8 (pg_name (i := 8) sc_windows.nd rfl (by first | exact Or.inl rfl | exact Or.inr rfl))) pgsv_nil)))))) (ss_cons (st_asg (ps_set (i := 9) sc_windows.nd rfl (by first | exact Or.inl rfl | exact Or.inr rfl) (em_P pv_int)) (fun q => q))
    (ss_cons (st_for PassesOwn.never rfl (im_rng1 (by rfl) T.n_range (am_cons (em_P (pv_var 7 (pv 7))) am_nil)) (pgv_nm 5 (pg_name (i := 5) sc_windows.nd rfl (by first | exact Or.inl rfl | exact Or.inr rfl))) (ss_one (st_if (tm_truth (em_call (ok_goes_ahead T) (hr.mono (by decide)) (by rfl) T.m_goes_ahead T.F_goes_ahead.kp T.b_goes_ahead pass0E (ag_v 8 (pv 8) (ag_v 2 (pv 2) (ag_v 5 (pv 5) (ag_e (em_P (pv_ix (pv_var 3 (pv 3)) (pv_var 5 (pv 5)))) ag_nil)))))) (ss_one (st_asg (ps_set (i := 9) sc_windows.nd rfl (by first | exact Or.inl rfl | exact Or.inr rfl) (em_P (pv_bin op_add2 ok_add2 (pv_var 1 (pv 1)) (pv_var 5 (pv 5))))) (fun q => q))) ss_nil)))
    (ss_one (st_ex (em_mutR mop_app (id := "") (pe_bm PySem.F.plainAttrs_list PySem.F.slot_list_append PySem.F.type_list_append mt_append (pv 6) (am_cons (em_P (pv_tup' (pa_pCons (pv_var 9 (pv 9)) (pa_pCons (pv_bin op_sub ok_sub (pv_callB (call_min2 rfl) ok_min2 (by rfl) T.n_min (by rfl) (pa_pCons (pv_callB call_len_seq ok_len (by rfl) T.n_len (by rfl) (pa_pCons (pv_var 2 (pv 2)) pa_pNil)) (pa_pCons (pv_bin op_add2 ok_add2 (pv_var 1 (pv 1)) (pv_var 7 (pv 7))) pa_pNil))) pv_int) pa_pNil)))) am_nil))))))))
    (ss_one (st_ret (em_mov 6 (pv 6))))))))))
theorem sc_law : FnScope N_law ["script"] (defScope s_law) := ⟨rfl, rfl, rfl, by decide +kernel, rfl, by decide +kernel, by decide +kernel⟩
def law_L1 : SX := (seqS (asgS 3 false (callM md__law_pool _law_pool_D [.v 2, .v 1]))
    (seqS (asgS 4 false (callM md__law_take _law_take_D [.m 3, .e (mP (pC (.int 13)))]))
    (seqS (ifS (mAnd (mtP (pTst (pOp2 (gEq false) (pVar 4) (pC (.int 12))))) (mtTst (mOp2 (gEq false) (callM md__law_take _law_take_D [.m 3, .e (mP (pC (.int 2)))]) (mP (pC (.int 1)))))) (asgS 4 false (mP (pC (.int 60)))) passS)
    (seqS (asgP (.tp [(.nm 5), (.nm 6)]) (callM md__law_told _law_told_D [.m 3, .v 4]))
    (seqS (asgS 7 false (mOp2 gIx (mOpN gLst (mCons (mP (pVar 6)) (mCons (callM md__law_size _law_size_D [.m 3, .v 4]) mNil))) (callM md__law_take _law_take_D [.m 3, .e (mP (pC (.int 2)))])))
    (seqS (asgS 8 true (mP (pComp [9] (pItL (pVar 5)) (.nm 9) pYes .z (pFz (pOpN (g1 gList) (pCons (pVar 9) pNil))))))
    (seqS (asgS 10 false (callM md__law_spans _law_spans_D [.v 5, .v 7]))
    (seqS (ifS (mOr (mNot (mtTru (callM md__law_like (_law_like_D 8) [.e (callM md_windows windows_D [.v 8, .v 7]), .v 10]))) (mtP (pTst (pOp2 (gEq true) (pVar 8) (pVar 5))))) (rtS false (mP (pC (.bl false)))) passS)
    (ifS (mOr (mNot (mtTru (callM md__law_like (_law_like_D 8) [.e (callK md_windows windows_D [.v 7, .v 8] [1, 0]), .v 10]))) (mtP (pTst (pOp2 (gEq true) (pVar 8) (pVar 5))))) (rtS false (mP (pC (.bl false)))) passS)))))))))
def law_B : SX := (seqS (forS (.tp [(.nm 1), (.nm 2)]) (mItE (mCons (mP (pOp2 gAdd2 (pOpN gLst (pCons (pOpN (g1 gLen) (pCons (pVar 0) pNil)) pNil)) (pSlice (pVar 0) pNoPart (pPart (pC (.int 6)))))) mNil)) law_L1)
    (rtS false (mP (pC (.bl true)))))
def law_D : Fn := mkF md_law 11 law_B
theorem ok_law (T : Txt K mg) : FnOk P w K mg base CX0 9 T.a_law T.d_law ["script"] (spF md_law law_D) := by
  refine def_ok0 (N := N_law) (body := law_B) T.F_law sc_law rfl (by decide) fun cdv A outer s H E hr => ?_
  unfold law_B
  exact (ss_cons (st_for PassesOwn.never rfl (im_enum (by rfl) T.n_enumerate (am_cons (em_P (pv_bin op_add2 ok_add2 (pv_lst (pa_pCons (pv_callB call_len_seq ok_len (by rfl) T.n_len (by rfl) (pa_pCons (pv_var 0 (pv 0)) pa_pNil)) pa_pNil)) (pv_slice (pv_var 0 (pv 0)) pov_none (pov_some pv_int)))) am_nil)) (pgv_tp 2 rfl (pg_tup rfl (pgsv_cons (pgv_nm 1 (pg_name (i := 1) sc_law.nd rfl (by first | exact Or.inl rfl | exact Or.inr rfl))) (pgsv_cons (pgv_nm 2 (pg_name (i := 2) sc_law.nd rfl (by first | exact Or.inl rfl | exact Or.inr rfl))) pgsv_nil (pgs_cons (pgv_nm 2 (pg_name (i := 2) sc_law.nd rfl (by first | exact Or.inl rfl | exact Or.inr rfl))) pgsv_nil)) (pgs_cons (pgv_nm 1 (pg_name (i := 1) sc_law.nd rfl (by first | exact Or.inl rfl | exact Or.inr rfl))) (pgsv_cons (pgv_nm 2 (pg_name (i := 2) sc_law.nd rfl (by first | exact Or.inl rfl | exact Or.inr rfl))) pgsv_nil (pgs_cons (pgv_nm 2 (pg_name (i := 2) sc_law.nd rfl (by first | exact Or.inl rfl | exact Or.inr rfl))) pgsv_nil)))))) (ss_cons (st_asg (ps_set (i := 3) sc_law.nd rfl (by first | exact Or.inl rfl | exact Or.inr rfl) (em_call (ok__law_pool T) (hr.mono (by decide)) (by rfl) T.m__law_pool T.F__law_pool.kp T.b__law_pool pass0E (ag_v 2 (pv 2) (ag_v 1 (pv 1) ag_nil)))) (fun q => q))
    (ss_cons (st_asg (ps_set (i := 4) sc_law.nd rfl (by first | exact Or.inl rfl | exact Or.inr rfl) (em_call (ok__law_take T) (hr.mono (by decide)) (by rfl) T.m__law_take T.F__law_take.kp T.b__law_take pass0E (ag_m 3 (pv 3) (ag_e (em_P pv_int) ag_nil)))) (fun q => q))
    (ss_cons (st_if (PW.pt (wm_and (tm_P (ptv_cmp (op_eqD hr.units) ok_eq (pv_var 4 (pv 4)) pv_int (nomark _))) (wm_and1 (tm_cmp (op_eqD hr.units) ok_eq (em_call (ok__law_take T) (hr.mono (by decide)) (by rfl) T.m__law_take T.F__law_take.kp T.b__law_take pass0E (ag_m 3 (pv 3) (ag_e (em_P pv_int) ag_nil))) (em_P pv_int) (nomark _))))) (ss_one (st_asg (ps_set (i := 4) sc_law.nd rfl (by first | exact Or.inl rfl | exact Or.inr rfl) (em_P pv_int)) (fun q => q))) ss_nil)
    (ss_cons (st_asgP (ps_asg (em_call (ok__law_told T) (hr.mono (by decide)) (by rfl) T.m__law_told T.F__law_told.kp T.b__law_told pass0E (ag_m 3 (pv 3) (ag_v 4 (pv 4) ag_nil))) (pgv_tp 2 rfl (pg_tup rfl (pgsv_cons (pgv_nm 5 (pg_name (i := 5) sc_law.nd rfl (by first | exact Or.inl rfl | exact Or.inr rfl))) (pgsv_cons (pgv_nm 6 (pg_name (i := 6) sc_law.nd rfl (by first | exact Or.inl rfl | exact Or.inr rfl))) pgsv_nil (pgs_cons (pgv_nm 6 (pg_name (i := 6) sc_law.nd rfl (by first | exact Or.inl rfl | exact Or.inr rfl))) pgsv_nil)) (pgs_cons (pgv_nm 5 (pg_name (i := 5) sc_law.nd rfl (by first | exact Or.inl rfl | exact Or.inr rfl))) (pgsv_cons (pgv_nm 6 (pg_name (i := 6) sc_law.nd rfl (by first | exact Or.inl rfl | exact Or.inr rfl))) pgsv_nil (pgs_cons (pgv_nm 6 (pg_name (i := 6) sc_law.nd rfl (by first | exact Or.inl rfl | exact Or.inr rfl))) pgsv_nil))))))) (fun q => q))
    (ss_cons (st_asg (ps_set (i := 7) sc_law.nd rfl (by first | exact Or.inl rfl | exact Or.inr rfl) (em_ix (em_lst (am_cons (em_P (pv_var 6 (pv 6))) (am_cons (em_call (ok__law_size T) (hr.mono (by decide)) (by rfl) T.m__law_size T.F__law_size.kp T.b__law_size pass0E (ag_m 3 (pv 3) (ag_v 4 (pv 4) ag_nil))) am_nil))) (em_call (ok__law_take T) (hr.mono (by decide)) (by rfl) T.m__law_take T.F__law_take.kp T.b__law_take pass0E (ag_m 3 (pv 3) (ag_e (em_P pv_int) ag_nil))))) (fun q => q))
    (ss_cons (st_asgLcP (ps_setLc (i := 8) (own := [(("pile" : Str), 9)]) rfl sc_law.nd rfl rfl (sw_true rfl rfl rfl (by decide +kernel)) (piv_list (pv_var 5 (pv 5))) (show BlkOk N_law (defScope s_law) _ [(("pile" : Str), 9)] from ⟨rfl, by decide +kernel, by decide +kernel, by decide +kernel, by decide +kernel⟩) (fun _ _ _ _ _ => (pgv_nm 9 (pg_name (i := 9) sc_law.nd rfl (by first | exact Or.inl rfl | exact Or.inr rfl)))) (fun _ _ _ _ _ => pts_yes) (fun _ _ _ _ _ => (pv_fz (pv_callTy call_list_of ok_list (by rfl) T.n_list (by rfl) (pa_pCons (pv_var 9 (pv 9)) pa_pNil))))))
    (ss_cons (st_asg (ps_set (i := 10) sc_law.nd rfl (by first | exact Or.inl rfl | exact Or.inr rfl) (em_call (ok__law_spans T) (hr.mono (by decide)) (by rfl) T.m__law_spans T.F__law_spans.kp T.b__law_spans pass0E (ag_v 5 (pv 5) (ag_v 7 (pv 7) ag_nil)))) (fun q => q))
    (ss_cons (st_if (PW.pt (wm_or (tm_not (tm_truth (em_call (ok__law_like T 8) (hr.mono (by decide)) (by rfl) T.m__law_like T.F__law_like.kp T.b__law_like pass0E (ag_e (em_call (ok_windows T) (hr.mono (by decide)) (by rfl) T.m_windows T.F_windows.kp T.b_windows pass0E (ag_v 8 (pv 8) (ag_v 7 (pv 7) ag_nil))) (ag_v 10 (pv 10) ag_nil))))) (wm_or1 (tm_P (ptv_cmp (op_neD hr.units) ok_ne (pv_var 8 (pv 8)) (pv_var 5 (pv 5)) (nomark _)))))) (ss_one (st_ret (em_P pv_bl))) ss_nil)
    (ss_one (st_if (PW.pt (wm_or (tm_not (tm_truth (em_call (ok__law_like T 8) (hr.mono (by decide)) (by rfl) T.m__law_like T.F__law_like.kp T.b__law_like pass0E (ag_e (em_callN0 (bs := [.v 7, .v 8]) (ok_windows T) (hr.mono (by decide)) (by rfl) T.m_windows T.F_windows.kp (kbn T.F_windows 0 [("hand" : Str), ("told" : Str)] [1, 0] fun _ _ _ _ _ _ us ws h1 h2 => match us, h1, ws, h2 with | [], _, [_, _], _ => rfl) pass0E (kg_v 7 (pv 7) (kg_v 8 (pv 8) kg_nil)) rfl (by decide)) (ag_v 10 (pv 10) ag_nil))))) (wm_or1 (tm_P (ptv_cmp (op_neD hr.units) ok_ne (pv_var 8 (pv 8)) (pv_var 5 (pv 5)) (nomark _)))))) (ss_one (st_ret (em_P pv_bl))) ss_nil)))))))))))
    (ss_one (st_ret (em_P pv_bl))))
end
set_option maxHeartbeats 4000000 in
theorem all_mk {l : PySem.W.OpenLaw} {w : World} {K : PySem.W.Frag} {h : Heap} {mg : Str → Option Value} {fa : Addr} (X : K.In h) (G : h.Ns mainGlobals mg) (hfa : mg "law" = some (.ref fa)) {f0 f1 f2 f3 f4 f5 f6 f7 f8 f9 f10 f11 f12 f13 f14 f15 : Addr}
    {oc0 : Value} {od0 an0 : Option Addr} {kV0 dc0 pm0 cd0 ct0 : Value} {sl0 : Array (Option Value)}
    (a0 : PySem.W.nsIn K mainGlobals "_law_like" = some (some (.ref f0))) (l0 : K.lookup f0 = some ⟨oc0, od0, .func (PySem.W.fnOf "_law_like" "_law_like" (defArgs s__law_like) (defBody s__law_like) (defScope s__law_like) .none kV0 dc0 pm0 an0 cd0 ct0), sl0⟩) (c0 : PySem.W.codeIn K cd0 "_law_like" = true) (k0 : PySem.W.keepIn K (.ref f0) = true)
    {oc1 : Value} {od1 an1 : Option Addr} {kV1 dc1 pm1 cd1 ct1 : Value} {sl1 : Array (Option Value)}
    (a1 : PySem.W.nsIn K mainGlobals "_law_pool" = some (some (.ref f1))) (l1 : K.lookup f1 = some ⟨oc1, od1, .func (PySem.W.fnOf "_law_pool" "_law_pool" (defArgs s__law_pool) (defBody s__law_pool) (defScope s__law_pool) .none kV1 dc1 pm1 an1 cd1 ct1), sl1⟩) (c1 : PySem.W.codeIn K cd1 "_law_pool" = true) (k1 : PySem.W.keepIn K (.ref f1) = true)
    {oc2 : Value} {od2 an2 : Option Addr} {kV2 dc2 pm2 cd2 ct2 : Value} {sl2 : Array (Option Value)}
    (a2 : PySem.W.nsIn K mainGlobals "_law_take" = some (some (.ref f2))) (l2 : K.lookup f2 = some ⟨oc2, od2, .func (PySem.W.fnOf "_law_take" "_law_take" (defArgs s__law_take) (defBody s__law_take) (defScope s__law_take) .none kV2 dc2 pm2 an2 cd2 ct2), sl2⟩) (c2 : PySem.W.codeIn K cd2 "_law_take" = true) (k2 : PySem.W.keepIn K (.ref f2) = true)
    {oc3 : Value} {od3 an3 : Option Addr} {kV3 dc3 pm3 cd3 ct3 : Value} {sl3 : Array (Option Value)}
    (a3 : PySem.W.nsIn K mainGlobals "_law_size" = some (some (.ref f3))) (l3 : K.lookup f3 = some ⟨oc3, od3, .func (PySem.W.fnOf "_law_size" "_law_size" (defArgs s__law_size) (defBody s__law_size) (defScope s__law_size) .none kV3 dc3 pm3 an3 cd3 ct3), sl3⟩) (c3 : PySem.W.codeIn K cd3 "_law_size" = true) (k3 : PySem.W.keepIn K (.ref f3) = true)
    {oc4 : Value} {od4 an4 : Option Addr} {kV4 dc4 pm4 cd4 ct4 : Value} {sl4 : Array (Option Value)}
    (a4 : PySem.W.nsIn K mainGlobals "_law_goes" = some (some (.ref f4))) (l4 : K.lookup f4 = some ⟨oc4, od4, .func (PySem.W.fnOf "_law_goes" "_law_goes" (defArgs s__law_goes) (defBody s__law_goes) (defScope s__law_goes) .none kV4 dc4 pm4 an4 cd4 ct4), sl4⟩) (c4 : PySem.W.codeIn K cd4 "_law_goes" = true) (k4 : PySem.W.keepIn K (.ref f4) = true)
    {oc5 : Value} {od5 an5 : Option Addr} {kV5 dc5 pm5 cd5 ct5 : Value} {sl5 : Array (Option Value)}
    (a5 : PySem.W.nsIn K mainGlobals "_law_spans" = some (some (.ref f5))) (l5 : K.lookup f5 = some ⟨oc5, od5, .func (PySem.W.fnOf "_law_spans" "_law_spans" (defArgs s__law_spans) (defBody s__law_spans) (defScope s__law_spans) .none kV5 dc5 pm5 an5 cd5 ct5), sl5⟩) (c5 : PySem.W.codeIn K cd5 "_law_spans" = true) (k5 : PySem.W.keepIn K (.ref f5) = true)
    {oc6 : Value} {od6 an6 : Option Addr} {kV6 dc6 pm6 cd6 ct6 : Value} {sl6 : Array (Option Value)}
    (a6 : PySem.W.nsIn K mainGlobals "_law_cards" = some (some (.ref f6))) (l6 : K.lookup f6 = some ⟨oc6, od6, .func (PySem.W.fnOf "_law_cards" "_law_cards" (defArgs s__law_cards) (defBody s__law_cards) (defScope s__law_cards) .none kV6 dc6 pm6 an6 cd6 ct6), sl6⟩) (c6 : PySem.W.codeIn K cd6 "_law_cards" = true) (k6 : PySem.W.keepIn K (.ref f6) = true)
    {oc7 : Value} {od7 an7 : Option Addr} {kV7 dc7 pm7 cd7 ct7 : Value} {sl7 : Array (Option Value)}
    (a7 : PySem.W.nsIn K mainGlobals "_law_way" = some (some (.ref f7))) (l7 : K.lookup f7 = some ⟨oc7, od7, .func (PySem.W.fnOf "_law_way" "_law_way" (defArgs s__law_way) (defBody s__law_way) (defScope s__law_way) .none kV7 dc7 pm7 an7 cd7 ct7), sl7⟩) (c7 : PySem.W.codeIn K cd7 "_law_way" = true) (k7 : PySem.W.keepIn K (.ref f7) = true)
    {oc8 : Value} {od8 an8 : Option Addr} {kV8 dc8 pm8 cd8 ct8 : Value} {sl8 : Array (Option Value)}
    (a8 : PySem.W.nsIn K mainGlobals "_law_piles" = some (some (.ref f8))) (l8 : K.lookup f8 = some ⟨oc8, od8, .func (PySem.W.fnOf "_law_piles" "_law_piles" (defArgs s__law_piles) (defBody s__law_piles) (defScope s__law_piles) .none kV8 dc8 pm8 an8 cd8 ct8), sl8⟩) (c8 : PySem.W.codeIn K cd8 "_law_piles" = true) (k8 : PySem.W.keepIn K (.ref f8) = true)
    {oc9 : Value} {od9 an9 : Option Addr} {kV9 dc9 pm9 cd9 ct9 : Value} {sl9 : Array (Option Value)}
    (a9 : PySem.W.nsIn K mainGlobals "_law_told" = some (some (.ref f9))) (l9 : K.lookup f9 = some ⟨oc9, od9, .func (PySem.W.fnOf "_law_told" "_law_told" (defArgs s__law_told) (defBody s__law_told) (defScope s__law_told) .none kV9 dc9 pm9 an9 cd9 ct9), sl9⟩) (c9 : PySem.W.codeIn K cd9 "_law_told" = true) (k9 : PySem.W.keepIn K (.ref f9) = true)
    {oc10 : Value} {od10 an10 : Option Addr} {kV10 dc10 pm10 cd10 ct10 : Value} {sl10 : Array (Option Value)}
    (a10 : PySem.W.nsIn K mainGlobals "check_hand" = some (some (.ref f10))) (l10 : K.lookup f10 = some ⟨oc10, od10, .func (PySem.W.fnOf "check_hand" "check_hand" (defArgs s_check_hand) (defBody s_check_hand) (defScope s_check_hand) .none kV10 dc10 pm10 an10 cd10 ct10), sl10⟩) (c10 : PySem.W.codeIn K cd10 "check_hand" = true) (k10 : PySem.W.keepIn K (.ref f10) = true)
    {oc11 : Value} {od11 an11 : Option Addr} {kV11 dc11 pm11 cd11 ct11 : Value} {sl11 : Array (Option Value)}
    (a11 : PySem.W.nsIn K mainGlobals "check_piles" = some (some (.ref f11))) (l11 : K.lookup f11 = some ⟨oc11, od11, .func (PySem.W.fnOf "check_piles" "check_piles" (defArgs s_check_piles) (defBody s_check_piles) (defScope s_check_piles) .none kV11 dc11 pm11 an11 cd11 ct11), sl11⟩) (c11 : PySem.W.codeIn K cd11 "check_piles" = true) (k11 : PySem.W.keepIn K (.ref f11) = true)
    {oc12 : Value} {od12 an12 : Option Addr} {kV12 dc12 pm12 cd12 ct12 : Value} {sl12 : Array (Option Value)}
    (a12 : PySem.W.nsIn K mainGlobals "goes_ahead" = some (some (.ref f12))) (l12 : K.lookup f12 = some ⟨oc12, od12, .func (PySem.W.fnOf "goes_ahead" "goes_ahead" (defArgs s_goes_ahead) (defBody s_goes_ahead) (defScope s_goes_ahead) .none kV12 dc12 pm12 an12 cd12 ct12), sl12⟩) (c12 : PySem.W.codeIn K cd12 "goes_ahead" = true) (k12 : PySem.W.keepIn K (.ref f12) = true)
    {oc13 : Value} {od13 an13 : Option Addr} {kV13 dc13 pm13 cd13 ct13 : Value} {sl13 : Array (Option Value)}
    (a13 : PySem.W.nsIn K mainGlobals "joined" = some (some (.ref f13))) (l13 : K.lookup f13 = some ⟨oc13, od13, .func (PySem.W.fnOf "joined" "joined" (defArgs s_joined) (defBody s_joined) (defScope s_joined) .none kV13 dc13 pm13 an13 cd13 ct13), sl13⟩) (c13 : PySem.W.codeIn K cd13 "joined" = true) (k13 : PySem.W.keepIn K (.ref f13) = true)
    {oc14 : Value} {od14 an14 : Option Addr} {kV14 dc14 pm14 cd14 ct14 : Value} {sl14 : Array (Option Value)}
    (a14 : PySem.W.nsIn K mainGlobals "windows" = some (some (.ref f14))) (l14 : K.lookup f14 = some ⟨oc14, od14, .func (PySem.W.fnOf "windows" "windows" (defArgs s_windows) (defBody s_windows) (defScope s_windows) .none kV14 dc14 pm14 an14 cd14 ct14), sl14⟩) (c14 : PySem.W.codeIn K cd14 "windows" = true) (k14 : PySem.W.keepIn K (.ref f14) = true)
    {oc15 : Value} {od15 an15 : Option Addr} {kV15 dc15 pm15 cd15 ct15 : Value} {sl15 : Array (Option Value)}
    (a15 : PySem.W.nsIn K mainGlobals "law" = some (some (.ref f15))) (l15 : K.lookup f15 = some ⟨oc15, od15, .func (PySem.W.fnOf "law" "law" (defArgs s_law) (defBody s_law) (defScope s_law) .none kV15 dc15 pm15 an15 cd15 ct15), sl15⟩) (c15 : PySem.W.codeIn K cd15 "law" = true) (k15 : PySem.W.keepIn K (.ref f15) = true)
    (n_bool : PySem.W.nsIn K mainGlobals "bool" = some none)
    (n_enumerate : PySem.W.nsIn K mainGlobals "enumerate" = some none)
    (n_int : PySem.W.nsIn K mainGlobals "int" = some none)
    (n_isinstance : PySem.W.nsIn K mainGlobals "isinstance" = some none)
    (n_len : PySem.W.nsIn K mainGlobals "len" = some none)
    (n_list : PySem.W.nsIn K mainGlobals "list" = some none)
    (n_max : PySem.W.nsIn K mainGlobals "max" = some none)
    (n_min : PySem.W.nsIn K mainGlobals "min" = some none)
    (n_range : PySem.W.nsIn K mainGlobals "range" = some none)
    (n_sorted : PySem.W.nsIn K mainGlobals "sorted" = some none)
    (n_tuple : PySem.W.nsIn K mainGlobals "tuple" = some none)
    : ∃ fd : FuncData, (∀ (s : Shared) (v : Value), BindsTo s fd ⟨[v], []⟩ [("script", v)]) ∧ ∀ base : Heap, K.In base → base.Ns mainGlobals mg → FnOk l.prog w K mg base CX0 9 fa fd ["script"] (spF md_law law_D) := by
  have e := hfa.symm.trans (PySem.W.mg_of X G a15)
  cases e
  have F0 := fun_mk (st := s__law_like) l0 c0 k0
  have F1 := fun_mk (st := s__law_pool) l1 c1 k1
  have F2 := fun_mk (st := s__law_take) l2 c2 k2
  have F3 := fun_mk (st := s__law_size) l3 c3 k3
  have F4 := fun_mk (st := s__law_goes) l4 c4 k4
  have F5 := fun_mk (st := s__law_spans) l5 c5 k5
  have F6 := fun_mk (st := s__law_cards) l6 c6 k6
  have F7 := fun_mk (st := s__law_way) l7 c7 k7
  have F8 := fun_mk (st := s__law_piles) l8 c8 k8
  have F9 := fun_mk (st := s__law_told) l9 c9 k9
  have F10 := fun_mk (st := s_check_hand) l10 c10 k10
  have F11 := fun_mk (st := s_check_piles) l11 c11 k11
  have F12 := fun_mk (st := s_goes_ahead) l12 c12 k12
  have F13 := fun_mk (st := s_joined) l13 c13 k13
  have F14 := fun_mk (st := s_windows) l14 c14 k14
  have F15 := fun_mk (st := s_law) l15 c15 k15
  let T : Txt K mg := {
    a__law_like := f0, d__law_like := _, F__law_like := F0, b__law_like := F0.binds (ps := ["found", "due"]) fun _ _ _ _ _ _ us hl => match us, hl with | [_, _], _ => rfl, m__law_like := PySem.W.mg_of X G a0,
    a__law_pool := f1, d__law_pool := _, F__law_pool := F1, b__law_pool := F1.binds (ps := ["cell", "turn"]) fun _ _ _ _ _ _ us hl => match us, hl with | [_, _], _ => rfl, m__law_pool := PySem.W.mg_of X G a1,
    a__law_take := f2, d__law_take := _, F__law_take := F2, b__law_take := F2.binds (ps := ["pool", "many"]) fun _ _ _ _ _ _ us hl => match us, hl with | [_, _], _ => rfl, m__law_take := PySem.W.mg_of X G a2,
    a__law_size := f3, d__law_size := _, F__law_size := F3, b__law_size := F3.binds (ps := ["pool", "many"]) fun _ _ _ _ _ _ us hl => match us, hl with | [_, _], _ => rfl, m__law_size := PySem.W.mg_of X G a3,
    a__law_goes := f4, d__law_goes := _, F__law_goes := F4, b__law_goes := F4.binds (ps := ["last", "told0", "card"]) fun _ _ _ _ _ _ us hl => match us, hl with | [_, _, _], _ => rfl, m__law_goes := PySem.W.mg_of X G a4,
    a__law_spans := f5, d__law_spans := _, F__law_spans := F5, b__law_spans := F5.binds (ps := ["piles", "size"]) fun _ _ _ _ _ _ us hl => match us, hl with | [_, _], _ => rfl, m__law_spans := PySem.W.mg_of X G a5,
    a__law_cards := f6, d__law_cards := _, F__law_cards := F6, b__law_cards := F6.binds (ps := ["pool", "many"]) fun _ _ _ _ _ _ us hl => match us, hl with | [_, _], _ => rfl, m__law_cards := PySem.W.mg_of X G a6,
    a__law_way := f7, d__law_way := _, F__law_way := F7, b__law_way := F7.binds (ps := ["cards", "size"]) fun _ _ _ _ _ _ us hl => match us, hl with | [_, _], _ => rfl, m__law_way := PySem.W.mg_of X G a7,
    a__law_piles := f8, d__law_piles := _, F__law_piles := F8, b__law_piles := F8.binds (ps := ["cards", "size"]) fun _ _ _ _ _ _ us hl => match us, hl with | [_, _], _ => rfl, m__law_piles := PySem.W.mg_of X G a8,
    a__law_told := f9, d__law_told := _, F__law_told := F9, b__law_told := F9.binds (ps := ["pool", "many"]) fun _ _ _ _ _ _ us hl => match us, hl with | [_, _], _ => rfl, m__law_told := PySem.W.mg_of X G a9,
    a_check_hand := f10, d_check_hand := _, F_check_hand := F10, b_check_hand := F10.binds (ps := ["hand"]) fun _ _ _ _ _ _ us hl => match us, hl with | [_], _ => rfl, m_check_hand := PySem.W.mg_of X G a10,
    a_check_piles := f11, d_check_piles := _, F_check_piles := F11, b_check_piles := F11.binds (ps := ["told"]) fun _ _ _ _ _ _ us hl => match us, hl with | [_], _ => rfl, m_check_piles := PySem.W.mg_of X G a11,
    a_goes_ahead := f12, d_goes_ahead := _, F_goes_ahead := F12, b_goes_ahead := F12.binds (ps := ["card", "told", "index", "begins"]) fun _ _ _ _ _ _ us hl => match us, hl with | [_, _, _, _], _ => rfl, m_goes_ahead := PySem.W.mg_of X G a12,
    a_joined := f13, d_joined := _, F_joined := F13, b_joined := F13.binds (ps := ["told"]) fun _ _ _ _ _ _ us hl => match us, hl with | [_], _ => rfl, m_joined := PySem.W.mg_of X G a13,
    a_windows := f14, d_windows := _, F_windows := F14, b_windows := F14.binds (ps := ["told", "hand"]) fun _ _ _ _ _ _ us hl => match us, hl with | [_, _], _ => rfl, m_windows := PySem.W.mg_of X G a14,
    a_law := fa, d_law := _, F_law := F15, b_law := F15.binds (ps := ["script"]) fun _ _ _ _ _ _ us hl => match us, hl with | [_], _ => rfl, m_law := PySem.W.mg_of X G a15,
    n_bool := PySem.W.mg_none_of X G n_bool, n_enumerate := PySem.W.mg_none_of X G n_enumerate, n_int := PySem.W.mg_none_of X G n_int, n_isinstance := PySem.W.mg_none_of X G n_isinstance, n_len := PySem.W.mg_none_of X G n_len, n_list := PySem.W.mg_none_of X G n_list, n_max := PySem.W.mg_none_of X G n_max, n_min := PySem.W.mg_none_of X G n_min, n_range := PySem.W.mg_none_of X G n_range, n_sorted := PySem.W.mg_none_of X G n_sorted, n_tuple := PySem.W.mg_none_of X G n_tuple }
  exact ⟨T.d_law, fun s v => .of_eq rfl, fun base _ _ => ok_law T⟩
end K56

set_option linter.all false
set_option maxRecDepth 100000
set_option maxHeartbeats 1000000
set_option exponentiation.threshold 100000
namespace K56
open Vt
theorem ix0 (n : Nat) : L2.ixN (n + 1) (0:Int) = some 0 := by simp [L2.ixN]
theorem ix0' : L2.ixN 1 (0:Int) = some 0 := ix0 0
theorem take_D (p m : Int) (hm : 0 < m) (hs : m.natAbs.log2 < 9000) : _law_take_D [.nd .lst [.int p], .int m] = .ret (.z, .int (p % m)) [.nd .lst [.int (p / m)]] := by
  simp [_law_take_D, mkF, _law_take_B, md__law_take, env0, unS, mdK, gIx, D.seq, Kd.isZ, Kd.kid, ix0', modOk, divOk, hm, hs, muts, Kd.beq, Env.put, fzK]
theorem log2_mul (a b : Nat) : (a * b).log2 ≤ a.log2 + b.log2 + 1 := by
  by_cases ha : a = 0
  · subst ha; simp
  by_cases hb : b = 0
  · subst hb; simp
  have h1 : a < 2 ^ (a.log2 + 1) := Nat.lt_log2_self
  have h2 : b < 2 ^ (b.log2 + 1) := Nat.lt_log2_self
  have h3 : a * b < 2 ^ (a.log2 + b.log2 + 2) := by
    have := Nat.mul_lt_mul'' h1 h2
    rw [← Nat.pow_add] at this
    rw [show a.log2 + b.log2 + 2 = a.log2 + 1 + (b.log2 + 1) by omega]
    exact this
  have := (Nat.log2_lt (Nat.mul_ne_zero ha hb)).mpr h3
  omega
theorem log2_of {a n : Nat} (h : a < 2 ^ (n + 1)) : a.log2 ≤ n := by
  by_cases ha : a = 0
  · subst ha; simp
  have := (Nat.log2_lt ha).mpr h
  omega
theorem pool_D (c : Int) (t : Nat) (ht : t ≤ 64) (hc : c.natAbs.log2 ≤ 1048576) : ∃ p, _law_pool_D [.int c, .int t] = .ret (.all .z, .nd .lst [.int p]) [] := by
  by_cases h : (10:Int) ^ 18 ≤ c
  · refine ⟨c - 10 ^ 18, ?_⟩
    have h' : (1000000000000000000 : Int) ≤ c := by omega
    simp [_law_pool_D, mkF, _law_pool_B, md__law_pool, env0, unS, mdK, powOk, gLst, zitems, zlist, h', muts, fzK]
  · have h' : ¬ (1000000000000000000 : Int) ≤ c := by omega
    have m1 : mulOk c 61803398874989484820458683436563811773 = true := decide_eq_true (by have : (61803398874989484820458683436563811773 : Int).natAbs.log2 = 125 := by decide +kernel
                                                                                          omega)
    have m2 : mulOk t 27182818284590452353602874713527 = true := decide_eq_true (by
      have : (27182818284590452353602874713527 : Int).natAbs.log2 = 104 := by decide +kernel
      have : (t : Int).natAbs.log2 ≤ 6 := log2_of (by omega)
      omega)
    generalize hq : (c * 61803398874989484820458683436563811773 + (t:Int) * 27182818284590452353602874713527 + 42391158275216203514294433201) % 100000000000000000000000000000000000000109 = q
    have q0 : 0 ≤ q := by omega
    have q1 : q < 100000000000000000000000000000000000000109 := by omega
    have ql : q.natAbs.log2 ≤ 137 := log2_of (Nat.lt_of_lt_of_le (show q.natAbs < 100000000000000000000000000000000000000109 by omega) (by decide +kernel))
    have m3 : mulOk q q = true := decide_eq_true (by omega)
    have m4 : mulOk 5 q = true := decide_eq_true (by have : (5 : Int).natAbs.log2 = 2 := by decide +kernel
                                                     omega)
    generalize hr : q * q + 5 * q + t = r
    have rl : r.natAbs.log2 ≤ 280 := by
      have a1 : q * q ≤ 100000000000000000000000000000000000000109 * 100000000000000000000000000000000000000109 := Int.mul_le_mul (by omega) (by omega) q0 (by omega)
      have a0 : 0 ≤ q * q := Int.mul_nonneg q0 q0
      exact log2_of (show r.natAbs < 2 ^ 281 by omega)
    have m5 : mulOk r r = true := decide_eq_true (by omega)
    have m6 : mulOk (r * r) r = true := decide_eq_true (by
      rw [Int.natAbs_mul]
      have := log2_mul r.natAbs r.natAbs
      omega)
    have l3 : Nat.log2 1000003 < 9000 := by decide +kernel
    refine ⟨r * r * r / 1000003, ?_⟩
    simp [_law_pool_D, mkF, _law_pool_B, md__law_pool, env0, unS, mdK, powOk, gLst, zitems, zlist, h', muts, modOk, divOk, m1, m2, m3, m4, m5, m6, Env.put, fzK, hq, hr, l3]
/-- small enough to be a divisor -/
theorem small_log {m : Int} (h : 0 < m) (h2 : m < 10 ^ 200) : m.natAbs.log2 < 9000 := by
  have h3 : m.natAbs < 2 ^ 9000 := Nat.lt_of_lt_of_le (show m.natAbs < 10 ^ 200 by omega) (by decide +kernel)
  exact (Nat.log2_lt (by omega)).mpr h3
theorem size_D (p : Int) (n : Nat) (hn : n ≤ 60) : ∃ s p', 1 ≤ s ∧ _law_size_D [.nd .lst [.int p], .int n] = .ret (.z, .int s) [.nd .lst [.int p']] := by
  have t7 := fun p => take_D p 7 (by decide) (by decide +kernel)
  have t29 := fun p => take_D p 100000000000000000000000000000 (by decide) (by decide +kernel)
  have tn := fun p => take_D p ((n : Int) + 2) (by omega) (small_log (by omega) (by omega))
  by_cases h0 : p % 7 = 0
  · refine ⟨1, p / 7, by decide, ?_⟩
    simp [_law_size_D, mkF, _law_size_B, md__law_size, md__law_take, env0, unS, mdOk, resC, backs, putM, putV, t7, h0]
  by_cases h6 : p % 7 = 6
  · refine ⟨10 ^ 20 + p / 7 % 10 ^ 29, p / 7 / 10 ^ 29, by omega, ?_⟩
    simp [_law_size_D, mkF, _law_size_B, md__law_size, md__law_take, env0, unS, mdOk, resC, backs, putM, putV, t7, t29, h0, h6, powOk]
  · refine ⟨1 + p / 7 % (n + 2), p / 7 / (n + 2), by have := Int.emod_nonneg (p / 7) (show (n : Int) + 2 ≠ 0 by omega); omega, ?_⟩
    simp [_law_size_D, mkF, _law_size_B, md__law_size, md__law_take, env0, unS, mdOk, resC, backs, putM, putV, t7, tn, h0, h6, powOk]
/-- a slot that is frozen or has nothing -/
def ZS (s : Sl) : Prop := s = .un ∨ ∃ d, s = .val .z d
theorem ZS.zero {s : Sl} (h : ZS s) : s.zero = true := by rcases h with rfl | ⟨d, rfl⟩ <;> rfl
theorem ins_nodup {ord : List Int} {k : Int} (h : ord.Nodup) (hk : k ∉ ord) (j : Nat) : (ord.take j ++ k :: ord.drop j).Nodup := by
  have p : (ord.take j ++ k :: ord.drop j).Perm (k :: ord) := by
    refine List.perm_middle.trans ?_
    rw [List.take_append_drop]
  exact p.nodup_iff.mpr (List.nodup_cons.mpr ⟨hk, h⟩)
theorem cards_D (p : Int) (n : Nat) (hn : n ≤ 60) : ∃ cs p', cs.Nodup ∧ cs.length = n ∧ _law_cards_D [.nd .lst [.int p], .int n] = .ret (.z, dI cs) [.nd .lst [.int p']] := by
  have t3 := fun p => take_D p 3 (by decide) (by decide +kernel)
  obtain ⟨st, hst, hst1, hst2⟩ : ∃ st : Int, (∀ b : Bool, gIx (b, .all .z, .nd .lst [.int 1, .int 3, .int 100000000000000000000000000]) (false, .z, .int (p % 3)) = ret (.int st)) ∧ 0 < st ∧ st ≤ 100000000000000000000000000 := by
    have h : p % 3 = 0 ∨ p % 3 = 1 ∨ p % 3 = 2 := by omega
    rcases h with h | h | h <;> rw [h]
    · exact ⟨1, fun _ => rfl, by decide, by decide⟩
    · exact ⟨3, fun _ => rfl, by decide, by decide⟩
    · exact ⟨_, fun _ => rfl, by decide, by decide⟩
  obtain ⟨lo, hlo⟩ : ∃ lo : Int, (∀ b : Bool, gIx (b, .all .z, .nd .lst [.int 0, .int (-4), .int (-100000000000000000000000000000)]) (false, .z, .int (p / 3 % 3)) = ret (.int lo)) := by
    have h : p / 3 % 3 = 0 ∨ p / 3 % 3 = 1 ∨ p / 3 % 3 = 2 := by omega
    rcases h with h | h | h <;> rw [h]
    · exact ⟨0, fun _ => rfl⟩
    · exact ⟨_, fun _ => rfl⟩
    · exact ⟨_, fun _ => rfl⟩
  have hgo := forGo_inv (pt := .nm 5) (body := _law_cards_L1) (ds := rngD 0 n)
    (fun i env => ∃ (q : Int) (ord : List Int) (s : Sl), env = [.val (.all .z) (.nd .lst [.int q]), .val .z (.int n), .val .z (.int st), .val .z (.int lo), .val (.all .z) (dI ord), s] ∧ ord.length = i ∧ (∀ x ∈ ord, 0 ≤ x ∧ x < i) ∧ ord.Nodup ∧ ZS s)
    (by
      rintro i d env hd ⟨q, ord, s, rfl, hl, hm, hnd, hs⟩
      rw [rngD_get] at hd
      split at hd
      case isFalse => cases hd
      rename_i hi
      cases hd
      have ti := take_D q ((i : Int) + 1) (by omega) (small_log (by omega) (by omega))
      have j0 := Int.emod_nonneg q (show (i : Int) + 1 ≠ 0 by omega)
      have j1 := Int.emod_lt_of_pos q (show 0 < (i : Int) + 1 by omega)
      refine ⟨_, [.val (.all .z) (.nd .lst [.int (q / (i + 1))]), .val .z (.int n), .val .z (.int st), .val .z (.int lo), .val (.all .z) (dI (ord.take (q % (i + 1)).toNat ++ (i : Int) :: ord.drop (q % (i + 1)).toNat)), .val .z (.int i)], rfl, .inl ?_, _, _, _, rfl, ?_, ?_, ?_, .inr ⟨_, rfl⟩⟩
      · simp [_law_cards_L1, md__law_take, mdOk, resC, backs, putM, putV, ti, gIns, retN, j0, show ord.length < 100000 by omega, show q % ((i : Int) + 1) < 100000 by omega]
      · simp; omega
      · intro x hx
        simp only [List.mem_append, List.mem_cons] at hx
        rcases hx with hx | rfl | hx
        · have := hm x (List.mem_of_mem_take hx); omega
        · omega
        · have := hm x (List.mem_of_mem_drop hx); omega
      · exact ins_nodup hnd (fun h => by have := hm _ h; omega) _)
    (env := [.val (.all .z) (.nd .lst [.int (p / 3 / 3)]), .val .z (.int n), .val .z (.int st), .val .z (.int lo), .val (.all .z) (.nd .lst []), .un]) ⟨_, [], _, rfl, rfl, (fun x hx => by cases hx), List.nodup_nil, .inl rfl⟩
  obtain ⟨e', hgo, q, ord, s, rfl, hl, hm, hnd, hs⟩ := hgo
  rw [rngD_length] at hl hm
  have hr : rngOk (n : Int) = true := by simp [rngOk]; omega
  have hc := cmpGo_eq (pt := .nm 5) (cond := pYes) (elt := (pOp2 gAdd2 (pVar 3) (pOp2 gMul2 (pOp2 gMul2 (pVar 2) (pVar 5)) (pVar 5)))) (k := .z) (env := [.val (.all .z) (.nd .lst [.int q]), .val .z (.int n), .val .z (.int st), .val .z (.int lo), .val (.all .z) (dI ord), .un])
    (fun _ => true) (fun d => match d with | .int k => .int (lo + st * k * k) | d => d) (ord.map D.int) (by
      intro d hd
      obtain ⟨k, hk, rfl⟩ := List.mem_map.mp hd
      have hk2 := hm k hk
      have lk : k.natAbs.log2 ≤ 6 := log2_of (by omega)
      have ls : st.natAbs.log2 ≤ 87 := log2_of (by omega)
      have m1 : mulOk st k = true := decide_eq_true (by omega)
      have m2 : mulOk (st * k) k = true := decide_eq_true (by
        rw [Int.natAbs_mul]
        have := log2_mul st.natAbs k.natAbs
        omega)
      exact ⟨_, rfl, rfl, fun _ => by simp [m1, m2]⟩)
  have hf : (List.filter (fun _ => true) (ord.map D.int)) = ord.map D.int := by simp
  rw [hf] at hc
  refine ⟨ord.map fun k => lo + st * k * k, q, ?_, by rw [List.length_map]; exact hl, ?_⟩
  · refine List.Pairwise.map _ (S := fun a b => a ≠ b) (R := fun a b => a ≠ b ∧ a ∈ ord ∧ b ∈ ord) ?_ ?_
    · rintro a b ⟨h1, h2, h3⟩ h4
      have ha := hm a h2
      have hb := hm b h3
      have h5 : st * (a * a - b * b) = 0 := by rw [Int.mul_sub, ← Int.mul_assoc, ← Int.mul_assoc]; omega
      rcases Int.mul_eq_zero.mp h5 with h6 | h6
      · omega
      · have h7 : (a - b) * (a + b) = 0 := by rw [Int.sub_mul, Int.mul_add, Int.mul_add, Int.mul_comm b a]; omega
        rcases Int.mul_eq_zero.mp h7 with h8 | h8 <;> omega
    · exact List.Pairwise.imp_of_mem (fun ha hb h => ⟨h, ha, hb⟩) hnd
  · have hw : ord.length ≤ 100000 := by omega
    simp [_law_cards_D, mkF, _law_cards_B, md__law_cards, md__law_take, env0, unS, mdOk, resC, backs, putM, putV, t3, gLst, zlist, powOk, hst, hlo, hr, hgo, ownZ, wipeE, hs.zero, hw, hc, hnd, List.map_map, Function.comp_def]
end K56

set_option linter.all false
set_option maxRecDepth 100000
set_option maxHeartbeats 1000000
namespace K56
open Vt
/-- the way so far -/
abbrev dW (way : List (Int × Int)) : D := .nd .lst (way.map fun w => .nd .tup [.int w.1, .int w.2])
def okK (cs : List Int) (way : List (Int × Int)) (k : Int) : Bool := match way.getLast? with
  | none => true
  | some w => decide (atI cs w.1 ≤ atI cs k)
/-- a step of the plain way -/
structure WayI (cs : List Int) (sz : Int) (i : Nat) (held : List Int) (drawn : Int) (way : List (Int × Int)) (pile : Int) : Prop where
  wl : way.length = i
  hl : (held.length : Int) + i = drawn
  dr : drawn = min (cs.length : Int) (sz + i)
  nd : (way.map (·.1) ++ held).Nodup
  rg : ∀ k ∈ way.map (·.1) ++ held, 0 ≤ k ∧ k < drawn
  ps : (way = [] ∧ pile = 0) ∨ ∃ w, way.getLast? = some w ∧ pile = w.2
  p0 : ∀ w, way.head? = some w → w.2 = 0
  st : ∀ j a b, way[j]? = some a → way[j + 1]? = some b → (b.2 = a.2 ∧ atI cs a.1 ≤ atI cs b.1) ∨ (b.2 = a.2 + 1 ∧ atI cs b.1 < atI cs a.1)
theorem fits_cond (cs : List Int) (way : List (Int × Int)) (k : Int) (hk : 0 ≤ k ∧ k < cs.length) (hw : ∀ w ∈ way, 0 ≤ w.1 ∧ w.1 < cs.length) {s1 s2 s4 s6 s7 s8 s9 : Sl} :
    (pOr (pTst (pOp2 (gEq false) (pVar 5) (pOpN gLst pNil))) (pTst (pOp2 gGe (pOp2 gIx (pVar 0) (pVar 3)) (pOp2 gIx (pVar 0) (pOp2 gIx (pOp2 gIx (pVar 5) (pOp1 gNeg (pC (.int 1)))) (pC (.int 0)))))))
      [.val .z (dI cs), s1, s2, .val .z (.int k), s4, .val (.all .z) (dW way), s6, s7, s8, s9] = some (okK cs way k) := by
  have hp : D.plN 8 (dW way) = true := by simp [D.plN]
  have he : ∀ a b c d, gEq false (a, b, dW way) (c, d, .nd .lst []) = ret (.bl (decide (way = []))) := fun a b c d => by
    rw [eq_pl hp (by simp [D.plN])]
    simp
  by_cases hn : way = []
  · subst hn
    simp [gLst, zlist, he, okK]
  · have hl : 0 < way.length := List.length_pos_iff.mpr hn
    have hg : way.getLast? = some (way.getLast hn) := List.getLast?_eq_some_getLast hn
    have hm := hw _ (List.getLast_mem hn)
    have e1 : gIx (true, .all .z, dW way) (false, .z, .int (-1)) = ret (.nd .tup [.int (way.getLast hn).1, .int (way.getLast hn).2]) :=
      v_ix (j := way.length - 1) (by rw [List.length_map]; exact ixN_last hl) (by rw [List.getElem?_map, ← List.getLast?_eq_getElem?, hg]; rfl) rfl
    have e2 : ∀ x y : D, gIx (false, .z, .nd .tup [x, y]) (false, .z, .int 0) = ret x := fun x y => v_ixT (j := 0) (by rfl) rfl rfl
    have e3 := ixG (a := false) (b := false) (k := .z) (l := .z) (ns := cs) hm.1 hm.2 (fun _ => rfl)
    have e4 := ixG (a := false) (b := false) (k := .z) (l := .z) (ns := cs) hk.1 hk.2 (fun _ => rfl)
    simp [gLst, zlist, he, okK, hn, e1, e2, e3, e4, hg]
theorem best_loop (cs fits : List Int) (hf : ∀ k ∈ fits, 0 ≤ k ∧ k < cs.length) {s1 s2 s4 s5 s6 s7 s8 : Sl} (b0 : Int) (h0 : b0 ∈ fits) (s3 : Sl) (hs3 : ZS s3) :
    ∃ b s3', ZS s3' ∧ b ∈ fits ∧ (∀ k ∈ fits, atI cs b ≤ atI cs k) ∧ forGo (.nm 3) _law_way_L1 (fits.map D.int) [.val .z (dI cs), s1, s2, s3, s4, s5, s6, s7, s8, .val .z (.int b0)] = .nx [.val .z (dI cs), s1, s2, s3', s4, s5, s6, s7, s8, .val .z (.int b)] := by
  obtain ⟨e', hgo, b, s3', rfl, h1, h2, h3⟩ := forGo_inv (pt := .nm 3) (body := _law_way_L1) (ds := fits.map D.int)
    (fun i env => ∃ b s3', env = [.val .z (dI cs), s1, s2, s3', s4, s5, s6, s7, s8, .val .z (.int b)] ∧ ZS s3' ∧ b ∈ fits ∧ ∀ j k, j < i → fits[j]? = some k → atI cs b ≤ atI cs k)
    (by
      rintro i d env hd ⟨b, s3', rfl, h1, h2, h3⟩
      rw [List.getElem?_map, Option.map_eq_some_iff] at hd
      obtain ⟨k, hk, rfl⟩ := hd
      have hkm : k ∈ fits := List.mem_of_getElem? hk
      have e3 := ixG (a := false) (b := false) (k := .z) (l := .z) (ns := cs) (hf b h2).1 (hf b h2).2 (fun _ => rfl)
      have e4 := ixG (a := false) (b := false) (k := .z) (l := .z) (ns := cs) (hf k hkm).1 (hf k hkm).2 (fun _ => rfl)
      by_cases hlt : atI cs k < atI cs b
      · refine ⟨_, [.val .z (dI cs), s1, s2, .val .z (.int k), s4, s5, s6, s7, s8, .val .z (.int k)], rfl, .inl ?_, k, _, rfl, .inr ⟨_, rfl⟩, hkm, fun j m hj hm => ?_⟩
        · simp [_law_way_L1, e3, e4, hlt]
        · by_cases q : j < i
          · have := h3 j m q hm; omega
          · have : j = i := by omega
            subst this
            rw [hk] at hm; cases hm; omega
      · refine ⟨_, [.val .z (dI cs), s1, s2, .val .z (.int k), s4, s5, s6, s7, s8, .val .z (.int b)], rfl, .inl ?_, b, _, rfl, .inr ⟨_, rfl⟩, h2, fun j m hj hm => ?_⟩
        · simp [_law_way_L1, e3, e4, hlt]
        · by_cases q : j < i
          · exact h3 j m q hm
          · have : j = i := by omega
            subst this
            rw [hk] at hm; cases hm; omega)
    (env := [.val .z (dI cs), s1, s2, s3, s4, s5, s6, s7, s8, .val .z (.int b0)]) ⟨b0, s3, rfl, hs3, h0, fun j k hj => by omega⟩
  refine ⟨b, s3', h1, h2, fun k hk => ?_, hgo⟩
  obtain ⟨j, hj, hk⟩ := List.getElem_of_mem hk
  exact h3 j k (by rw [List.length_map]; exact hj) (by simp [hj, hk])
end K56

set_option linter.all false
set_option maxRecDepth 100000
set_option maxHeartbeats 1000000
namespace K56
open Vt
theorem firstAt_mem {k : Int} {ns : List Int} (h : k ∈ ns) : ∃ j, firstAt k ns = some j ∧ j < ns.length ∧ ns[j]? = some k := by
  cases e : firstAt k ns with
  | none =>
    unfold firstAt at e
    rw [List.findIdx?_eq_none_iff] at e
    have := e k h
    simp at this
  | some j =>
    have := (firstAt_spec e).1
    exact ⟨j, rfl, (List.getElem?_eq_some_iff.mp this).1, this⟩
theorem erase_perm : ∀ {ns : List Int} {j : Nat} {k : Int}, ns[j]? = some k → ns.Perm (k :: ns.eraseIdx j)
  | [], j, k, h => by simp at h
  | a :: ns, 0, k, h => by simp at h; subst h; exact List.Perm.refl _
  | a :: ns, j + 1, k, h => by
    rw [List.eraseIdx_cons_succ]
    exact ((erase_perm (ns := ns) (by simpa using h)).cons a).trans (List.Perm.swap _ _ _)
theorem getLast?_snoc {α : Type} (l : List α) (a : α) : (l ++ [a]).getLast? = some a := by simp
theorem getElem?_snoc {α : Type} {l : List α} {a b : α} {j : Nat} (h : (l ++ [a])[j]? = some b) : l[j]? = some b ∨ (j = l.length ∧ b = a) := by
  by_cases q : j < l.length
  · rw [List.getElem?_append_left q] at h; exact .inl h
  · rw [List.getElem?_append_right (by omega)] at h
    by_cases e : j = l.length
    · subst e; simp at h; exact .inr ⟨rfl, h.symm⟩
    · rw [List.getElem?_eq_none (by simp; omega)] at h; cases h
abbrev wayE (cs : List Int) (sz : Int) (held : List Int) (s3 : Sl) (drawn : Int) (way : List (Int × Int)) (pile : Int) (s7 s8 s9 : Sl) : Env :=
  [.val .z (dI cs), .val .z (.int sz), .val (.all .z) (dI held), s3, .val .z (.int drawn), .val (.all .z) (dW way), .val .z (.int pile), s7, s8, s9]
theorem WayI.next {cs : List Int} {sz : Int} {i : Nat} {held : List Int} {drawn : Int} {way : List (Int × Int)} {pile pile' b : Int} {held' : List Int} (h : WayI cs sz i held drawn way pile) (hp : held.Perm (b :: held'))
    (hb : (way = [] ∧ pile' = 0) ∨ ∃ w, way.getLast? = some w ∧ ((pile' = w.2 ∧ atI cs w.1 ≤ atI cs b) ∨ (pile' = w.2 + 1 ∧ atI cs b < atI cs w.1))) (hi : i < cs.length)
    : WayI cs sz (i + 1) (if drawn < cs.length then held' ++ [drawn] else held') (if drawn < cs.length then drawn + 1 else drawn) (way ++ [(b, pile')]) pile' := by
  have hl1 : held.length = held'.length + 1 := by rw [hp.length_eq]; rfl
  have h1 := h.hl
  have h2 := h.dr
  have pm : ((way ++ [(b, pile')]).map (·.1) ++ held').Perm (way.map (·.1) ++ held) := by
    simp only [List.map_append, List.map_cons, List.map_nil, List.append_assoc, List.singleton_append]
    exact List.Perm.append_left _ hp.symm
  refine ⟨by simp [h.wl], ?_, ?_, ?_, ?_, .inr ⟨_, getLast?_snoc _ _, rfl⟩, ?_, ?_⟩
  · split <;> simp <;> omega
  · split <;> omega
  · split
    · rw [← List.append_assoc, List.nodup_append]
      refine ⟨pm.nodup_iff.mpr h.nd, by simp, fun a ha c hc => ?_⟩
      have := h.rg a (pm.subset ha)
      simp at hc
      omega
    · exact pm.nodup_iff.mpr h.nd
  · intro k hk
    split at hk
    · rw [← List.append_assoc, List.mem_append] at hk
      rw [if_pos (by assumption)]
      rcases hk with hk | hk
      · have := h.rg k (pm.subset hk); omega
      · have e : k = drawn := by simpa using hk
        omega
    · rw [if_neg (by assumption)]
      exact h.rg k (pm.subset hk)
  · intro w hw
    rcases hb with ⟨rfl, rfl⟩ | ⟨w', hw', _⟩
    · simp at hw; subst hw; rfl
    · have : way ≠ [] := by rintro rfl; cases hw'
      refine h.p0 w ?_
      cases way with
      | nil => exact absurd rfl this
      | cons x xs => exact hw
  · intro j x y hx hy
    rcases getElem?_snoc hy with hy | ⟨hj, rfl⟩
    · have hx' : way[j]? = some x := by
        rcases getElem?_snoc hx with hx | ⟨hj, rfl⟩
        · exact hx
        · have := (List.getElem?_eq_some_iff.mp hy).1; omega
      exact h.st j x y hx' hy
    · have hx' : way[j]? = some x := by
        rcases getElem?_snoc hx with hx | ⟨hj', rfl⟩
        · exact hx
        · omega
      rcases hb with ⟨rfl, rfl⟩ | ⟨w, hw, hc⟩
      · simp at hj
      · have e : w = x := by
          rw [List.getLast?_eq_getElem?, show way.length - 1 = j by omega, hx'] at hw
          exact (Option.some.inj hw).symm
        subst e
        exact hc
theorem way_step (cs : List Int) (sz : Int) (hsz : 1 ≤ sz) (hn : cs.length ≤ 60) (i : Nat) (hi : i < cs.length) (held : List Int) (drawn : Int) (way : List (Int × Int)) (pile : Int) (h : WayI cs sz i held drawn way pile) (s3 s8 s9 : Sl) (h3 : ZS s3) (h8 : ZS s8) (h9 : ZS s9) :
    ∃ held' drawn' way' pile' t3 t7 t8 t9, WayI cs sz (i + 1) held' drawn' way' pile' ∧ ZS t3 ∧ ZS t7 ∧ ZS t8 ∧ ZS t9 ∧
      _law_way_L2 (wayE cs sz held s3 drawn way pile (.val .z (.int i)) s8 s9) = .nx (wayE cs sz held' t3 drawn' way' pile' t7 t8 t9) := by
  have hd : drawn ≤ cs.length := by have := h.dr; omega
  have hh : ∀ k ∈ held, 0 ≤ k ∧ k < cs.length := fun k hk => by have := h.rg k (List.mem_append_right _ hk); omega
  have hw : ∀ w ∈ way, 0 ≤ w.1 ∧ w.1 < cs.length := fun w hw => by have := h.rg w.1 (List.mem_append_left _ (List.mem_map_of_mem hw)); omega
  have hl : held.length ≤ 60 := by have := h.hl; omega
  have hne : held ≠ [] := by
    rintro rfl
    have h1 := h.hl
    have h2 := h.dr
    simp at h1
    omega
  have hwl := h.wl
  -- the cards that fit
  have hc : ∀ s7 s8 s9 : Sl, cmpGo (.nm 3) (pOr (pTst (pOp2 (gEq false) (pVar 5) (pOpN gLst pNil))) (pTst (pOp2 gGe (pOp2 gIx (pVar 0) (pVar 3)) (pOp2 gIx (pVar 0) (pOp2 gIx (pOp2 gIx (pVar 5) (pOp1 gNeg (pC (.int 1)))) (pC (.int 0))))))) (pVar 3) .z (held.map D.int)
      [.val .z (dI cs), .val .z (.int sz), .val (.all .z) (dI held), .un, .val .z (.int drawn), .val (.all .z) (dW way), .val .z (.int pile), s7, s8, s9] = some ((held.filter (okK cs way)).map D.int) := fun s7 s8 s9 => by
    rw [cmpGo_eq (fun d => match d with | .int k => okK cs way k | _ => false) (fun d => d) (held.map D.int) (fun d hd => by
      obtain ⟨k, hk, rfl⟩ := List.mem_map.mp hd
      exact ⟨_, rfl, fits_cond cs way k (hh k hk) hw, fun _ => rfl⟩)]
    rw [List.map_id', List.filter_map]
    rfl
  have hp8 : ∀ ns : List Int, ∀ a b c d, gEq false (a, b, dI ns) (c, d, .nd .lst []) = ret (.bl (decide (ns = []))) := fun ns a b c d => by
    rw [eq_pl (plN_dI 7 ns) (by simp [D.plN])]
    simp
  have hpn : ∀ a b c d, gEq false (a, b, .nd .lst []) (c, d, .nd .lst []) = ret (.bl true) := fun a b c d => (hp8 [] a b c d).trans (by simp)
  have how : ownZ [3] 0 (wayE cs sz held s3 drawn way pile (.val .z (.int i)) s8 s9) = true := by simp [ownZ, h3.zero]
  have hlen : held.length ≤ 100000 := by omega
  -- what is chosen, and from where
  obtain ⟨fits, pile', hfe, hfm, hpe⟩ : ∃ (fits : List Int) (pile' : Int), fits ≠ [] ∧ (∀ k ∈ fits, k ∈ held) ∧
      (((held.filter (okK cs way) ≠ [] ∧ fits = held.filter (okK cs way) ∧ pile' = pile) ∨ (held.filter (okK cs way) = [] ∧ fits = held ∧ pile' = pile + 1)) ∧
       ∀ b ∈ fits, (way = [] ∧ pile' = 0) ∨ ∃ w, way.getLast? = some w ∧ ((pile' = w.2 ∧ atI cs w.1 ≤ atI cs b) ∨ (pile' = w.2 + 1 ∧ atI cs b < atI cs w.1))) := by
    by_cases hf : held.filter (okK cs way) = []
    · refine ⟨held, pile + 1, hne, fun k hk => hk, .inr ⟨hf, rfl, rfl⟩, fun b hb => ?_⟩
      have hk : okK cs way b = false := by
        rw [List.filter_eq_nil_iff] at hf
        simpa using hf b hb
      rcases h.ps with ⟨rfl, _⟩ | ⟨w, hw1, hw2⟩
      · simp [okK] at hk
      · simp only [okK, hw1, decide_eq_false_iff_not] at hk
        exact .inr ⟨w, hw1, .inr ⟨by omega, by omega⟩⟩
    · refine ⟨_, pile, hf, fun k hk => (List.mem_filter.mp hk).1, .inl ⟨hf, rfl, rfl⟩, fun b hb => ?_⟩
      have hk : okK cs way b = true := (List.mem_filter.mp hb).2
      rcases h.ps with hz | ⟨w, hw1, hw2⟩
      · exact .inl hz
      · simp only [okK, hw1, decide_eq_true_eq] at hk
        exact .inr ⟨w, hw1, .inl ⟨hw2, hk⟩⟩
  obtain ⟨hpe, hpb⟩ := hpe
  obtain ⟨f0, ft, rfl⟩ : ∃ f0 ft, fits = f0 :: ft := by
    cases fits with
    | nil => exact absurd rfl hfe
    | cons a as => exact ⟨a, as, rfl⟩
  obtain ⟨b, t3, ht3, hb1, hb2, hb3⟩ := best_loop cs (f0 :: ft) (fun k hk => hh k (hfm k hk)) (s1 := .val .z (.int sz)) (s2 := .val (.all .z) (dI held)) (s4 := .val .z (.int drawn)) (s5 := .val (.all .z) (dW way)) (s6 := .val .z (.int pile')) (s7 := .val .z (.int i)) (s8 := .val .z (dI (f0 :: ft))) f0 List.mem_cons_self s3 h3
  obtain ⟨j, hj1, hj2, hj3⟩ := firstAt_mem (hfm b hb1)
  have e0 : ∀ a b : Bool, gIx (a, .z, dI (f0 :: ft)) (b, .z, .int 0) = ret (.int f0) := fun a b => v_ix (j := 0) (by rw [show (0 : Int) = ((0 : Nat) : Int) by rfl, ixN_nat]; simp) rfl rfl
  refine ⟨_, _, _, pile', t3, .val .z (.int i), .val .z (dI (f0 :: ft)), .val .z (.int b), h.next (erase_perm hj3) (hpb b hb1) hi, ht3, .inr ⟨_, rfl⟩, .inr ⟨_, rfl⟩, .inr ⟨_, rfl⟩, ?_⟩
  have gr : gRem (.all .z) (dI held) [(.z, .int b)] = retN (dI (held.eraseIdx j)) := by
    simp [gRem, hj1, eraseIdx_map]
  have wl : way.length < 100000 := by omega
  have el : (held.eraseIdx j).length < 100000 := by rw [List.length_eraseIdx_of_lt hj2]; omega
  have ga : ∀ (xs : List D) (x : D), xs.length < 100000 → gApp (.all .z) (.nd .lst xs) [(.z, x)] = retN (.nd .lst (xs ++ [x])) := fun xs x hx => by
    simp [gApp, hx]
  rcases hpe with ⟨hf, hfx, rfl⟩ | ⟨hf, hfx, rfl⟩
  · rw [hfx] at e0 hb3
    by_cases hdl : drawn < cs.length
    · simp [_law_way_L2, ownZ, h3.zero, wipeE, hlen, hc, hp8, hf, e0, hb3, gTup, gr, ga, wl, el, hdl, retN, gLen, gLst, zlist]
      exact (congrArg (List.map D.int) hfx).symm
    · simp [_law_way_L2, ownZ, h3.zero, wipeE, hlen, hc, hp8, hf, e0, hb3, gTup, gr, ga, wl, el, hdl, retN, gLen, gLst, zlist]
      exact (congrArg (List.map D.int) hfx).symm
  · rw [hfx] at e0 hb3
    by_cases hdl : drawn < cs.length
    · simp [_law_way_L2, ownZ, h3.zero, wipeE, hlen, hc, hp8, hpn, hf, e0, hb3, gTup, gr, ga, wl, el, hdl, retN, gLen, gLst, zlist, gList]
      exact (congrArg (List.map D.int) hfx).symm
    · simp [_law_way_L2, ownZ, h3.zero, wipeE, hlen, hc, hp8, hpn, hf, e0, hb3, gTup, gr, ga, wl, el, hdl, retN, gLen, gLst, zlist, gList]
      exact (congrArg (List.map D.int) hfx).symm
/-- what the plain way is -/
structure WayOk (cs : List Int) (way : List (Int × Int)) : Prop where
  len : way.length = cs.length
  nd : (way.map (·.1)).Nodup
  rg : ∀ k ∈ way.map (·.1), 0 ≤ k ∧ k < (cs.length : Int)
  p0 : ∀ w, way.head? = some w → w.2 = 0
  st : ∀ j a b, way[j]? = some a → way[j + 1]? = some b → (b.2 = a.2 ∧ atI cs a.1 ≤ atI cs b.1) ∨ (b.2 = a.2 + 1 ∧ atI cs b.1 < atI cs a.1)
theorem way_D (cs : List Int) (sz : Int) (hsz : 1 ≤ sz) (hn : cs.length ≤ 60) : ∃ way, WayOk cs way ∧ _law_way_D [dI cs, .int sz] = .ret (.z, dW way) [] := by
  obtain ⟨m, hm, hm1⟩ : ∃ m : Nat, (if (cs.length : Int) < sz then (cs.length : Int) else sz) = m ∧ (m : Int) = min (cs.length : Int) sz := by
    refine ⟨(min (cs.length : Int) sz).toNat, ?_, ?_⟩
    · split <;> omega
    · omega
  obtain ⟨e', hgo, held, drawn, way, pile, t3, t7, t8, t9, h, h3, h7, h8, h9, rfl⟩ := forGo_inv (pt := .nm 7) (body := _law_way_L2) (ds := rngD 0 cs.length)
    (fun i env => ∃ held drawn way pile t3 t7 t8 t9, WayI cs sz i held drawn way pile ∧ ZS t3 ∧ ZS t7 ∧ ZS t8 ∧ ZS t9 ∧ env = wayE cs sz held t3 drawn way pile t7 t8 t9)
    (by
      rintro i d env hd ⟨held, drawn, way, pile, t3, t7, t8, t9, h, h3, h7, h8, h9, rfl⟩
      rw [rngD_get] at hd
      split at hd
      case isFalse => cases hd
      rename_i hi
      cases hd
      obtain ⟨held', drawn', way', pile', s3, s7, s8, s9, g, g3, g7, g8, g9, e⟩ := way_step cs sz hsz hn i hi held drawn way pile h t3 t8 t9 h3 h8 h9
      refine ⟨wayE cs sz held t3 drawn way pile (.val .z (.int i)) t8 t9, _, ?_, .inl e, _, _, _, _, _, _, _, _, g, g3, g7, g8, g9, rfl⟩
      simp)
    (env := wayE cs sz ((List.range m).map fun (i : Nat) => (i : Int)) .un m [] 0 .un .un .un)
    ⟨_, _, _, _, _, _, _, _, ⟨rfl, by simp, by simp only [Int.natCast_zero]; omega, by
      simp only [List.map_nil, List.nil_append]
      refine List.Pairwise.map _ ?_ (List.nodup_range (n := m))
      intro a b h; omega, by
      intro k hk
      simp only [List.map_nil, List.nil_append, List.mem_map, List.mem_range] at hk
      obtain ⟨a, ha, rfl⟩ := hk
      omega, .inl ⟨rfl, rfl⟩, fun w hw => (by cases hw), fun j a b hj => (by simp at hj)⟩, .inl rfl, .inl rfl, .inl rfl, .inl rfl, rfl⟩
  rw [rngD_length] at h
  have hsub : ∀ k ∈ way.map (·.1), 0 ≤ k ∧ k < (cs.length : Int) := fun k hk => by
    have := h.rg k (List.mem_append_left _ hk)
    have := h.dr
    omega
  refine ⟨way, ⟨h.wl, (List.nodup_append.mp h.nd).1, hsub, h.p0, h.st⟩, ?_⟩
  have hgo2 : forGo (.nm 7) _law_way_L2 (rngD 0 cs.length) [.val .z (dI cs), .val .z (.int sz), .val (.all .z) (.nd .lst (((List.range m).map fun (i : Nat) => (i : Int)).map D.int)), .un, .val .z (.int m), .val (.all .z) (.nd .lst []), .val .z (.int 0), .un, .un, .un] = .nx (wayE cs sz held t3 drawn way pile t7 t8 t9) := hgo
  have hr : rngOk (cs.length : Int) = true := by simp [rngOk]; omega
  have hrm : rngOk (m : Int) = true := by simp [rngOk]; omega
  have hc : cmpGo (.nm 3) pYes (pVar 3) .z (rngD 0 m) [.val .z (dI cs), .val .z (.int sz), .un, .un, .un, .un, .un, .un, .un, .un] = some (rngD 0 m) := by
    rw [cmpGo_eq (fun _ => true) (fun d => d) (rngD 0 m) (fun d hd => ⟨_, rfl, rfl, fun _ => rfl⟩)]
    simp
  have hrd : rngD 0 m = ((List.range m).map fun (i : Nat) => (i : Int)).map D.int := by simp [rngD]
  rw [hrd] at hc
  have hm60 : m ≤ 100000 := by omega
  simp [_law_way_D, mkF, _law_way_B, md__law_way, env0, unS, gLen, hm, hrm, hr, hc, ownZ, wipeE, hrd, hm60, gLst, zlist, hgo2, Sl.zero, -List.map_map]
end K56

set_option linter.all false
set_option maxRecDepth 100000
set_option maxHeartbeats 1000000
namespace K56
open Vt
abbrev dP (P : List (List Int)) : D := .nd .lst (P.map dI)
structure PilesI (cs : List Int) (way : List (Int × Int)) (i : Nat) (P : List (List Int)) : Prop where
  fl : P.flatten = (way.take i).map fun w => atI cs w.1
  ne : ∀ p ∈ P, p ≠ []
  so : ∀ p ∈ P, p.Pairwise (· ≤ ·)
  l0 : i = 0 → P = []
  ln : ∀ w, 0 < i → way[i - 1]? = some w → (P.length : Int) = w.2 + 1
  la : ∀ w p, 0 < i → way[i - 1]? = some w → P.getLast? = some p → p.getLast? = some (atI cs w.1)
  ds : ∀ j a b, P[j]? = some a → P[j + 1]? = some b → ∃ x y, a.getLast? = some x ∧ b.head? = some y ∧ y < x
theorem take_succ' {α : Type} {l : List α} {i : Nat} {a : α} (h : l[i]? = some a) : l.take (i + 1) = l.take i ++ [a] := by
  rw [List.take_succ, h]; rfl
theorem PilesI.start {cs : List Int} {way : List (Int × Int)} : PilesI cs way 0 [] := ⟨rfl, by simp, by simp, fun _ => rfl, fun _ h => absurd h (by omega), fun _ _ h => absurd h (by omega), by simp⟩
/-- a new pile -/
theorem PilesI.new {cs : List Int} {way : List (Int × Int)} {i : Nat} {P : List (List Int)} {w : Int × Int} (h : PilesI cs way i P) (W : WayOk cs way) (hw : way[i]? = some w) (hp : w.2 = P.length) : PilesI cs way (i + 1) (P ++ [[atI cs w.1]]) := by
  refine ⟨by rw [take_succ' hw]; simp [h.fl], ?_, ?_, by omega, ?_, ?_, ?_⟩
  · intro p hp; rcases List.mem_append.mp hp with hp | hp
    · exact h.ne p hp
    · simp at hp; simp [hp]
  · intro p hp; rcases List.mem_append.mp hp with hp | hp
    · exact h.so p hp
    · simp at hp; simp [hp]
  · intro w' _ hw'
    rw [Nat.add_sub_cancel, hw] at hw'; cases hw'
    simp; omega
  · intro w' p _ hw' hp
    rw [Nat.add_sub_cancel, hw] at hw'; cases hw'
    rw [getLast?_snoc] at hp; cases hp; rfl
  · intro j a b ha hb
    rcases getElem?_snoc hb with hb | ⟨hj, rfl⟩
    · rcases getElem?_snoc ha with ha | ⟨hj', rfl⟩
      · exact h.ds j a b ha hb
      · have := (List.getElem?_eq_some_iff.mp hb).1; omega
    · rcases getElem?_snoc ha with ha | ⟨hj', rfl⟩
      · have i0 : 0 < i := by
          rcases Nat.eq_zero_or_pos i with z | z
          · rw [h.l0 z] at ha; simp at ha
          · exact z
        obtain ⟨v, hv⟩ : ∃ v, way[i - 1]? = some v := by
          have := (List.getElem?_eq_some_iff.mp hw).1
          exact ⟨way[i - 1], by simp [show i - 1 < way.length by omega]⟩
        have hl : P.getLast? = some a := by rw [List.getLast?_eq_getElem?, show P.length - 1 = j by omega]; exact ha
        refine ⟨_, _, h.la v a i0 hv hl, rfl, ?_⟩
        have h1 := h.ln v i0 hv
        rcases W.st (i - 1) v w hv (by rw [show i - 1 + 1 = i by omega]; exact hw) with ⟨q1, q2⟩ | ⟨q1, q2⟩
        · omega
        · exact q2
      · omega
/-- a card more on the last pile -/
theorem PilesI.more {cs : List Int} {way : List (Int × Int)} {i : Nat} {P : List (List Int)} {p : List Int} {w : Int × Int} (h : PilesI cs way i (P ++ [p])) (W : WayOk cs way) (hw : way[i]? = some w) (hp : w.2 = P.length) : PilesI cs way (i + 1) (P ++ [p ++ [atI cs w.1]]) := by
  have i0 : 0 < i := by
    rcases Nat.eq_zero_or_pos i with z | z
    · have := h.l0 z; simp at this
    · exact z
  obtain ⟨v, hv⟩ : ∃ v, way[i - 1]? = some v := by
    have := (List.getElem?_eq_some_iff.mp hw).1
    exact ⟨way[i - 1], by simp [show i - 1 < way.length by omega]⟩
  have hla := h.la v p i0 hv (getLast?_snoc _ _)
  have hln := h.ln v i0 hv
  have hle : atI cs v.1 ≤ atI cs w.1 := by
    rcases W.st (i - 1) v w hv (by rw [show i - 1 + 1 = i by omega]; exact hw) with ⟨q1, q2⟩ | ⟨q1, q2⟩
    · exact q2
    · simp at hln; omega
  have hne := h.ne p (by simp)
  have hso := h.so p (by simp)
  refine ⟨?_, ?_, ?_, by omega, ?_, ?_, ?_⟩
  · rw [take_succ' hw, List.map_append, ← h.fl]; simp
  · intro q hq; rcases List.mem_append.mp hq with hq | hq
    · exact h.ne q (List.mem_append_left _ hq)
    · simp at hq; simp [hq]
  · intro q hq; rcases List.mem_append.mp hq with hq | hq
    · exact h.so q (List.mem_append_left _ hq)
    · simp at hq; subst hq
      rw [List.pairwise_append]
      refine ⟨hso, by simp, fun a ha b hb => ?_⟩
      simp at hb; subst hb
      obtain ⟨r, hr⟩ : ∃ r, p = r ++ [atI cs v.1] := by
        rw [List.getLast?_eq_some_iff] at hla
        exact hla
      subst hr
      rcases List.mem_append.mp ha with ha | ha
      · have := (List.pairwise_append.mp hso).2.2 a ha (atI cs v.1) (by simp)
        omega
      · simp at ha; omega
  · intro w' _ hw'
    rw [Nat.add_sub_cancel, hw] at hw'; cases hw'
    simp; omega
  · intro w' q _ hw' hq
    rw [Nat.add_sub_cancel, hw] at hw'; cases hw'
    rw [getLast?_snoc] at hq; cases hq; simp
  · intro j a b ha hb
    rcases getElem?_snoc hb with hb | ⟨hj, rfl⟩
    · rcases getElem?_snoc ha with ha | ⟨hj', rfl⟩
      · exact h.ds j a b (by rw [List.getElem?_append_left (List.getElem?_eq_some_iff.mp ha).1]; exact ha) (by rw [List.getElem?_append_left (List.getElem?_eq_some_iff.mp hb).1]; exact hb)
      · have := (List.getElem?_eq_some_iff.mp hb).1; omega
    · rcases getElem?_snoc ha with ha | ⟨hj', rfl⟩
      · obtain ⟨x, y, q1, q2, q3⟩ := h.ds j a p (by rw [List.getElem?_append_left (List.getElem?_eq_some_iff.mp ha).1]; exact ha) (by rw [List.getElem?_append_right (by omega), hj]; simp)
        refine ⟨x, y, q1, ?_, q3⟩
        cases p with
        | nil => cases q2
        | cons z zs => exact q2
      · omega
end K56

set_option linter.all false
set_option maxRecDepth 100000
set_option maxHeartbeats 1000000
namespace K56
open Vt
theorem lay_one (cs : List Int) (P : List (List Int)) (p : List Int) (k : Int) (hk : 0 ≤ k ∧ k < cs.length) (hp : p.length < 100000) (s1 : Sl) :
    mutP 2 (pthIx 2 pthR (pVar 4)) gApp (pCons (pOp2 gIx (pVar 0) (pVar 3)) pNil) [.val .z (dI cs), s1, .val (.all (.all .z)) (dP (P ++ [p])), .val .z (.int k), .val .z (.int (P.length : Int))] =
      .ok (.z, .non) [.val .z (dI cs), s1, .val (.all (.all .z)) (dP (P ++ [p ++ [atI cs k]])), .val .z (.int k), .val .z (.int (P.length : Int))] := by
  have e4 := ixG (a := false) (b := false) (k := .z) (l := .z) (ns := cs) hk.1 hk.2 (fun _ => rfl)
  have hx : L2.ixN (P.length + 1) (P.length : Int) = some P.length := by rw [ixN_nat, if_pos (by omega)]
  simp [subAt, hx, e4, mvs, gApp, hp, retN, updD]
theorem lay_step (cs : List Int) (hn : cs.length ≤ 60) (way : List (Int × Int)) (W : WayOk cs way) (i : Nat) (P : List (List Int)) (h : PilesI cs way i P) (w : Int × Int) (hw : way[i]? = some w) (s1 : Sl) :
    ∃ P', PilesI cs way (i + 1) P' ∧ _law_piles_L1 [.val .z (dI cs), s1, .val (.all (.all .z)) (dP P), .val .z (.int w.1), .val .z (.int w.2)] = .nx [.val .z (dI cs), s1, .val (.all (.all .z)) (dP P'), .val .z (.int w.1), .val .z (.int w.2)] := by
  have hk := W.rg w.1 (List.mem_map_of_mem (List.mem_of_getElem? hw))
  have hil := (List.getElem?_eq_some_iff.mp hw).1
  have hwl := W.len
  have hfl : P.flatten.length ≤ 60 := by rw [h.fl]; simp; omega
  have hPl : P.length ≤ 60 := by
    have : ∀ (Q : List (List Int)), (∀ p ∈ Q, p ≠ []) → Q.length ≤ Q.flatten.length := by
      intro Q
      induction Q with
      | nil => intro _; exact Nat.le_refl _
      | cons a Q ih =>
        intro hq
        have h1 := ih (fun p hp => hq p (List.mem_cons_of_mem _ hp))
        have h2 : 0 < a.length := List.length_pos_iff.mpr (hq a List.mem_cons_self)
        rw [List.flatten_cons, List.length_append, List.length_cons]; omega
    have := this P h.ne
    omega
  by_cases hnew : w.2 = P.length
  · refine ⟨_, h.new W hw hnew, ?_⟩
    have l1 : mutP 2 (pthIx 2 pthR (pVar 4)) gApp (pCons (pOp2 gIx (pVar 0) (pVar 3)) pNil) [.val .z (dI cs), s1, .val (.all (.all .z)) (.nd .lst (P.map dI ++ [.nd .lst []])), .val .z (.int w.1), .val .z (.int (P.length : Int))] =
      .ok (.z, .non) [.val .z (dI cs), s1, .val (.all (.all .z)) (dP (P ++ [[atI cs w.1]])), .val .z (.int w.1), .val .z (.int (P.length : Int))] := by
      have := lay_one cs P [] w.1 hk (by simp) s1
      simp only [dP, List.map_append, List.map_cons, List.map_nil, List.nil_append] at this
      simp only [dP, List.map_append, List.map_cons, List.map_nil]
      exact this
    have hPl' : P.length < 100000 := by omega
    simp [_law_piles_L1, -e_mutP, gLen, hnew, gLst, zlist, gApp, hPl', retN, l1]
  · obtain ⟨P0, p, rfl, hp0⟩ : ∃ P0 p, P = P0 ++ [p] ∧ w.2 = P0.length := by
      have i0 : 0 < i := by
        rcases Nat.eq_zero_or_pos i with z | z
        · subst z
          have := W.p0 w (by rw [List.head?_eq_getElem?]; exact hw)
          rw [h.l0 rfl] at hnew
          exact absurd this hnew
        · exact z
      obtain ⟨v, hv⟩ : ∃ v, way[i - 1]? = some v := ⟨way[i - 1], by simp [show i - 1 < way.length by omega]⟩
      have hln := h.ln v i0 hv
      have hwv : w.2 = v.2 := by
        rcases W.st (i - 1) v w hv (by rw [show i - 1 + 1 = i by omega]; exact hw) with ⟨q1, q2⟩ | ⟨q1, q2⟩
        · exact q1
        · omega
      have hne : P ≠ [] := by
        rintro rfl
        have h1 := h.fl
        have h2 := congrArg List.length h1
        rw [List.length_map, List.length_take] at h2
        simp at h2
        omega
      refine ⟨P.dropLast, P.getLast hne, (List.dropLast_concat_getLast hne).symm, ?_⟩
      rw [List.length_dropLast]
      have : 0 < P.length := List.length_pos_iff.mpr hne
      omega
    refine ⟨_, h.more W hw hp0, ?_⟩
    have hpl : p.length < 100000 := by
      rw [List.flatten_append, List.length_append] at hfl
      simp at hfl
      omega
    have l1 := lay_one cs P0 p w.1 hk hpl s1
    have hne2 : ¬ ((P0.length : Int) = (P0.length : Int) + 1) := by omega
    simp only [dP] at l1
    simp [_law_piles_L1, -e_mutP, gLen, hp0, hne2, retN, l1]
end K56

set_option linter.all false
set_option maxRecDepth 100000
set_option maxHeartbeats 1000000
namespace K56
open Vt
structure PilesOk (n : Nat) (P : List (List Int)) : Prop where
  nd : P.flatten.Nodup
  len : P.flatten.length = n
  ne : ∀ p ∈ P, p ≠ []
  so : ∀ p ∈ P, p.Pairwise (· ≤ ·)
  ds : ∀ j a b, P[j]? = some a → P[j + 1]? = some b → ∃ x y, a.getLast? = some x ∧ b.head? = some y ∧ y < x
theorem atI_inj {cs : List Int} (h : cs.Nodup) {a b : Int} (ha : 0 ≤ a ∧ a < cs.length) (hb : 0 ≤ b ∧ b < cs.length) (e : atI cs a = atI cs b) : a = b := by
  obtain ⟨i, rfl⟩ := Int.eq_ofNat_of_zero_le ha.1
  obtain ⟨j, rfl⟩ := Int.eq_ofNat_of_zero_le hb.1
  have hi : i < cs.length := by omega
  have hj : j < cs.length := by omega
  simp only [atI, Int.toNat_natCast, List.getD_eq_getElem?_getD, List.getElem?_eq_getElem hi, List.getElem?_eq_getElem hj, Option.getD_some] at e
  have := (List.getElem_inj h).mp e
  omega
theorem piles_D (cs : List Int) (hcs : cs.Nodup) (sz : Int) (hsz : 1 ≤ sz) (hn : cs.length ≤ 60) : ∃ P, PilesOk cs.length P ∧ _law_piles_D [dI cs, .int sz] = .ret (.z, dP P) [] := by
  obtain ⟨way, W, hway⟩ := way_D cs sz hsz hn
  obtain ⟨e', hgo, P, t3, t4, h, rfl⟩ := forGo_inv (pt := .tp [(.nm 3), (.nm 4)]) (body := _law_piles_L1) (ds := way.map fun w => .nd .tup [.int w.1, .int w.2])
    (fun i env => ∃ P t3 t4, PilesI cs way i P ∧ env = [.val .z (dI cs), .val .z (.int sz), .val (.all (.all .z)) (dP P), t3, t4])
    (by
      rintro i d env hd ⟨P, t3, t4, h, rfl⟩
      rw [List.getElem?_map, Option.map_eq_some_iff] at hd
      obtain ⟨w, hw, rfl⟩ := hd
      obtain ⟨P', h', e⟩ := lay_step cs hn way W i P h w hw (.val .z (.int sz))
      refine ⟨_, _, ?_, .inl e, P', _, _, h', rfl⟩
      simp)
    (env := [.val .z (dI cs), .val .z (.int sz), .val (.all (.all .z)) (dP []), .un, .un]) ⟨[], .un, .un, PilesI.start, rfl⟩
  rw [List.length_map] at h
  have hfl : P.flatten = way.map fun w => atI cs w.1 := by rw [h.fl, List.take_length]
  refine ⟨P, ⟨?_, by rw [hfl, List.length_map, W.len], h.ne, h.so, h.ds⟩, ?_⟩
  · rw [hfl]
    have h2 := W.nd
    unfold List.Nodup at h2 ⊢
    rw [List.pairwise_map] at h2 ⊢
    refine List.Pairwise.imp_of_mem (fun {a b} ha hb hab e => hab (atI_inj hcs (W.rg a.1 (List.mem_map_of_mem ha)) (W.rg b.1 (List.mem_map_of_mem hb)) e)) h2
  · have hgo2 : forGo (.tp [(.nm 3), (.nm 4)]) _law_piles_L1 (way.map fun w => .nd .tup [.int w.1, .int w.2]) [.val .z (dI cs), .val .z (.int sz), .val (.all (.all .z)) (.nd .lst []), .un, .un] = .nx [.val .z (dI cs), .val .z (.int sz), .val (.all (.all .z)) (dP P), t3, t4] := hgo
    simp [_law_piles_D, mkF, _law_piles_B, md__law_piles, md__law_way, env0, unS, mdOk, resC, backs, putM, putV, hway, hgo2]
theorem told_D (p : Int) (n : Nat) (hn : n ≤ 60) : ∃ P s p', PilesOk n P ∧ 1 ≤ s ∧ _law_told_D [.nd .lst [.int p], .int n] = .ret (.z, .nd .tup [dP P, .int s]) [.nd .lst [.int p']] := by
  have t4 := fun p => take_D p 4 (by decide) (by decide +kernel)
  have t3 := fun p => take_D p 3 (by decide) (by decide +kernel)
  obtain ⟨s, hs⟩ : ∃ s : Int, ∀ b : Bool, gIx (b, .all .z, .nd .lst [.int 1, .int (1 + p % 4), .int n]) (false, .z, .int (p / 4 % 3)) = ret (.int s) := by
    have h : p / 4 % 3 = 0 ∨ p / 4 % 3 = 1 ∨ p / 4 % 3 = 2 := by omega
    rcases h with h | h | h <;> rw [h]
    · exact ⟨1, fun _ => rfl⟩
    · exact ⟨_, fun _ => rfl⟩
    · exact ⟨_, fun _ => rfl⟩
  obtain ⟨cs, p', hnd, hlen, hcs⟩ := cards_D (p / 4 / 3) n hn
  obtain ⟨P, hP, hpl⟩ := piles_D cs hnd (if s > 1 then s else 1) (by split <;> omega) (by omega)
  rw [hlen] at hP
  refine ⟨P, if s > 1 then s else 1, p', hP, by split <;> omega, ?_⟩
  simp [_law_told_D, mkF, _law_told_B, md__law_told, md__law_take, md__law_cards, md__law_piles, env0, unS, mdOk, resC, backs, putM, putV, t4, t3, hs, hcs, hpl, gLst, zlist, gTup]
end K56

set_option linter.all false
set_option maxRecDepth 100000
set_option maxHeartbeats 1000000
namespace K56
open Vt
def begs (P : List (List Int)) : List Bool := P.flatMap fun p => (List.range p.length).map fun (i : Nat) => decide ((i : Int) = 0)
theorem begs_len : ∀ P : List (List Int), (begs P).length = P.flatten.length
  | [] => rfl
  | p :: P => by
    have := begs_len P
    unfold begs at this ⊢
    rw [List.flatMap_cons, List.flatten_cons, List.length_append, List.length_append, this]
    simp
theorem begs_chain : ∀ (P : List (List Int)), (∀ p ∈ P, p ≠ []) → (∀ p ∈ P, p.Pairwise (· ≤ ·)) → (∀ j a b, P[j]? = some a → P[j + 1]? = some b → ∃ x y, a.getLast? = some x ∧ b.head? = some y ∧ y < x) →
    ∀ (i : Nat) (x y : Int) (b : Bool), P.flatten[i]? = some x → P.flatten[i + 1]? = some y → (begs P)[i + 1]? = some b → (b = true → y < x) ∧ (b = false → x ≤ y)
  | [], _, _, _, i, x, y, b, h, _, _ => by simp at h
  | p :: P, hne, hso, hds, i, x, y, b, hx, hy, hb => by
    have ih := begs_chain P (fun q hq => hne q (List.mem_cons_of_mem _ hq)) (fun q hq => hso q (List.mem_cons_of_mem _ hq)) (fun j a c ha hc => hds (j + 1) a c (by simpa using ha) (by simpa using hc))
    have hbe : begs (p :: P) = ((List.range p.length).map fun (i : Nat) => decide ((i : Int) = 0)) ++ begs P := by unfold begs; rw [List.flatMap_cons]
    rw [List.flatten_cons] at hx hy
    rw [hbe] at hb
    have hp := hne p List.mem_cons_self
    have hpl : 0 < p.length := List.length_pos_iff.mpr hp
    by_cases h1 : i + 1 < p.length
    · rw [List.getElem?_append_left (by omega)] at hx
      rw [List.getElem?_append_left h1] at hy
      rw [List.getElem?_append_left (by simpa using h1), List.getElem?_map, List.getElem?_range h1] at hb
      have hb : decide (((i + 1 : Nat) : Int) = 0) = b := Option.some.inj hb
      rw [decide_eq_false (by omega)] at hb
      subst hb
      refine ⟨fun q => (nomatch q), fun _ => ?_⟩
      obtain ⟨l1, e1⟩ := List.getElem?_eq_some_iff.mp hx
      obtain ⟨l2, e2⟩ := List.getElem?_eq_some_iff.mp hy
      have := (List.pairwise_iff_getElem.mp (hso p List.mem_cons_self)) i (i + 1) l1 l2 (by omega)
      rw [e1, e2] at this
      exact this
    · by_cases h2 : i + 1 = p.length
      · rw [List.getElem?_append_left (by omega)] at hx
        rw [List.getElem?_append_right (by omega), h2, Nat.sub_self] at hy
        rw [List.getElem?_append_right (by simp; omega)] at hb
        simp only [List.length_map, List.length_range, h2, Nat.sub_self] at hb
        cases P with
        | nil => simp at hy
        | cons q Q =>
          have hq := hne q (by simp)
          obtain ⟨z, zs, rfl⟩ : ∃ z zs, q = z :: zs := by
            cases q with
            | nil => exact absurd rfl hq
            | cons z zs => exact ⟨z, zs, rfl⟩
          obtain ⟨x', y', g1, g2, g3⟩ := hds 0 p (z :: zs) rfl rfl
          rw [List.getLast?_eq_getElem?, show p.length - 1 = i by omega, hx] at g1
          cases g1
          cases g2
          have hy' : z = y := by simpa using hy
          subst hy'
          have hb' : b = true := by
            unfold begs at hb
            rw [List.flatMap_cons, List.length_cons, List.range_succ_eq_map] at hb
            simpa using hb.symm
          subst hb'
          exact ⟨fun _ => g3, fun q => (nomatch q)⟩
      · rw [List.getElem?_append_right (by omega)] at hx hy
        rw [List.getElem?_append_right (by simp; omega)] at hb
        simp only [List.length_map, List.length_range] at hb
        rw [show i + 1 - p.length = i - p.length + 1 by omega] at hy hb
        exact ih (i - p.length) x y b hx hy hb
theorem joined_eq (P : List (List Int)) (hl : P.flatten.length ≤ 60) (hP : P.length ≤ 60) : joined_D [dP P] = .ret (.z, dI P.flatten) [] := by
  have h := lc2Go_eq (pt := .nm 1) (pt1 := .nm 2) (cond := pYes) (it1 := pItL0 (pVar 1)) (own1 := [2]) (cond1 := pYes) (elt := pVar 2) (k := .z) (env := [.val .z (dP P), .un, .un]) (fun d => match d with | .nd _ xs => xs | _ => []) (P.map dI) (by
    intro d hd
    obtain ⟨p, hp, rfl⟩ := List.mem_map.mp hd
    refine ⟨[.val .z (dP P), .val .z (dI p), .un], p.map D.int, by simp, rfl, by simp, rfl, ?_⟩
    rw [cmpGo_eq (fun _ => true) (fun d => d) (p.map D.int) (fun d hd => ⟨_, rfl, rfl, fun _ => rfl⟩)]
    simp)
  have e : (P.map dI).flatMap (fun d => match d with | .nd _ xs => xs | _ => []) = P.flatten.map D.int := by
    rw [List.flatMap_map, List.map_flatten, List.flatMap_def]
  rw [e] at h
  have hl2 : P.flatten.length ≤ 100000 := by omega
  simp [joined_D, mkF, joined_B, md_joined, env0, unS, ownZ, wipeE, Sl.zero, h, hl2, -List.length_flatten, -List.map_flatten]
end K56

set_option linter.all false
set_option maxRecDepth 100000
set_option maxHeartbeats 1000000
namespace K56
open Vt
theorem check_hand_eq (h : Int) (hh : 1 ≤ h) : check_hand_D [.int h] = .ret (.z, .non) [] := by
  have : ¬ h < 1 := by omega
  simp [check_hand_D, mkF, check_hand_B, md_check_hand, env0, unS, this]
theorem sort_eq {p : List Int} (h : p.Pairwise (· ≤ ·)) : sortI p = p := pw_perm_eq (sortI_perm p) (sortI_pw p) h
theorem enumD_mem {ds : List D} {n i : Nat} {d : D} (h : (enumD n ds)[i]? = some d) : ∃ x, ds[i]? = some x ∧ d = .nd .tup [.int ((n + i : Nat) : Int), x] := by
  rw [enumD_get, Option.map_eq_some_iff] at h
  obtain ⟨x, h1, h2⟩ := h
  exact ⟨x, h1, h2.symm⟩
theorem check_piles_eq (n : Nat) (P : List (List Int)) (h : PilesOk n P) : check_piles_D [dP P] = .ret (.z, .non) [] := by
  obtain ⟨e', hgo, s1, s2, rfl⟩ := forGo_inv (pt := .tp [(.nm 1), (.nm 2)]) (body := check_piles_L1) (ds := enumD 0 (P.map dI))
    (fun i env => ∃ s1 s2, env = [.val .z (dP P), s1, s2])
    (by
      rintro i d env hd ⟨s1, s2, rfl⟩
      obtain ⟨x, hx, rfl⟩ := enumD_mem hd
      rw [List.getElem?_map, Option.map_eq_some_iff] at hx
      obtain ⟨p, hp, rfl⟩ := hx
      rw [Nat.zero_add]
      have hpm := List.mem_of_getElem? hp
      have hne := h.ne p hpm
      have hso := sort_eq (h.so p hpm)
      refine ⟨[.val .z (dP P), .val .z (.int i), .val .z (dI p)], [.val .z (dP P), .val .z (.int i), .val .z (dI p)], by simp, .inl ?_, _, _, rfl⟩
      have hse : ∀ a b c d, gEq true (a, b, dI p) (c, d, dI p) = ret (.bl false) := fun a b c d => by
        rw [ne_pl (plN_dI 7 p) (plN_dI 7 p)]
        simp
      have hem : p.isEmpty = false := by simpa using hne
      cases i with
      | zero => simp [check_piles_L1, gSortI, D.lstInts, hso, hse, hem, zlist]
      | succ i =>
        obtain ⟨q, hq⟩ : ∃ q, P[i]? = some q := by
          have := (List.getElem?_eq_some_iff.mp hp).1
          exact ⟨P[i], by simp [show i < P.length by omega]⟩
        obtain ⟨x, y, g1, g2, g3⟩ := h.ds i q p hq hp
        have hql : 0 < q.length := by cases q with
          | nil => cases g1
          | cons a b => simp
        have e1 : gIx (false, .z, dI p) (false, .z, .int 0) = ret (.int y) := by
          cases p with
          | nil => cases g2
          | cons z zs => cases g2; exact v_ix (j := 0) (by rw [show (0 : Int) = ((0 : Nat) : Int) by rfl, ixN_nat]; simp) rfl rfl
        have e2 : gIx (false, .z, dP P) (false, .z, .int (i : Int)) = ret (dI q) := v_ix (j := i) (by rw [ixN_nat, if_pos (by simpa using (List.getElem?_eq_some_iff.mp hq).1)]) (by simp [hq]) rfl
        have e3 : gIx (false, .z, dI q) (false, .z, .int (-1)) = ret (.int x) := v_ix (j := q.length - 1) (by rw [List.length_map]; exact ixN_last hql) (by rw [List.getElem?_map, ← List.getLast?_eq_getElem?, g1]; rfl) rfl
        have e4 : ((i : Int) + 1 - 1) = i := by omega
        have hy : ¬ x < y := by omega
        have hi0 : (0 : Int) < (i : Int) + 1 := by omega
        simp [check_piles_L1, gSortI, D.lstInts, hso, hse, hem, zlist, e1, e2, e3, e4, hy, hi0])
    (env := [.val .z (dP P), .un, .un]) ⟨_, _, rfl⟩
  simp [check_piles_D, mkF, check_piles_B, md_check_piles, env0, unS, hgo]
def GA (cs : List Int) (card : Int) (j : Nat) (b : Bool) : Bool :=
  if j = 0 then decide (card < atI cs 0) else if b = true then (decide (card < atI cs j) || decide (atI cs ((j : Int) - 1) ≤ card)) else (decide (atI cs ((j : Int) - 1) ≤ card) && decide (card < atI cs j))
theorem goes_ahead_eq (cs : List Int) (card : Int) (j : Nat) (b : Bool) (hj : j < cs.length) : goes_ahead_D [.int card, dI cs, .int j, .bl b] = .ret (.z, .bl (GA cs card j b)) [] := by
  have e0 := fun (a b : Bool) => ixG (a := a) (b := b) (k := .z) (l := .z) (ns := cs) (i := 0) (by omega) (by omega) (fun _ => rfl)
  have ej := fun (a b : Bool) => ixG (a := a) (b := b) (k := .z) (l := .z) (ns := cs) (i := j) (by omega) (by omega) (fun _ => rfl)
  by_cases h0 : j = 0
  · subst h0
    simp at e0
    simp [goes_ahead_D, mkF, goes_ahead_B, md_goes_ahead, env0, unS, e0, GA]
  · have ep := fun (a b : Bool) => ixG (a := a) (b := b) (k := .z) (l := .z) (ns := cs) (i := (j : Int) - 1) (by omega) (by omega) (fun _ => rfl)
    cases b with
    | true =>
      by_cases h1 : card < atI cs j <;> simp [goes_ahead_D, mkF, goes_ahead_B, md_goes_ahead, env0, unS, ej, ep, GA, h0, h1]
    | false =>
      by_cases h1 : atI cs ((j : Int) - 1) ≤ card <;> simp [goes_ahead_D, mkF, goes_ahead_B, md_goes_ahead, env0, unS, ej, ep, GA, h0, h1]
/-- where a card may stand first -/
def firstN (g : Nat → Bool) (h : Int) : Nat → Int
  | 0 => 0
  | j + 1 => if g j = true then h + j else firstN g h j
theorem firstN_eq {g g' : Nat → Bool} {h : Int} : ∀ m : Nat, (∀ j, j < m → g j = g' j) → firstN g h m = firstN g' h m
  | 0, _ => rfl
  | m + 1, e => by
    unfold firstN
    rw [e m (by omega), firstN_eq m fun j hj => e j (by omega)]
def spanD (g : Nat → Nat → Bool) (h : Int) (n i : Nat) : D := .nd .tup [.int (firstN (g i) h i), .int (min (n : Int) (h + i) - 1)]
abbrev winG (cs : List Int) (bg : List Bool) (i j : Nat) : Bool := GA cs (atI cs i) j (bg.getD j false)
theorem winL1 (cs : List Int) (bg : List Bool) (hb : bg.length = cs.length) (hn : cs.length ≤ 60) (i : Nat) (hi : i < cs.length) (h : Int) (s0 s4 s5 s6 s7 : Sl) :
    ∃ t5, forGo (.nm 5) windows_L1 (rngD 0 i) [s0, .val .z (.int h), .val .z (dI cs), .val .z (.nd .lst (bg.map D.bl)), s4, s5, s6, s7, .val .z (.int (atI cs i)), .val .z (.int 0)] =
      .nx [s0, .val .z (.int h), .val .z (dI cs), .val .z (.nd .lst (bg.map D.bl)), s4, t5, s6, s7, .val .z (.int (atI cs i)), .val .z (.int (firstN (winG cs bg i) h i))] := by
  obtain ⟨e', hgo, t5, rfl⟩ := forGo_inv (pt := .nm 5) (body := windows_L1) (ds := rngD 0 i)
    (fun j env => ∃ t5, env = [s0, .val .z (.int h), .val .z (dI cs), .val .z (.nd .lst (bg.map D.bl)), s4, t5, s6, s7, .val .z (.int (atI cs i)), .val .z (.int (firstN (winG cs bg i) h j))])
    (by
      rintro j d env hd ⟨t5, rfl⟩
      rw [rngD_get] at hd
      split at hd
      case isFalse => cases hd
      rename_i hj
      cases hd
      rw [Int.zero_add]
      have hga := goes_ahead_eq cs (atI cs i) j (bg.getD j false) (by omega)
      have hbx : ∀ b : Bool, gIx (b, .z, .nd .lst (bg.map D.bl)) (false, .z, .int (j : Int)) = ret (.bl (bg.getD j false)) := fun b =>
        v_ix (j := j) (by rw [ixN_nat, if_pos (by rw [List.length_map]; omega)]) (by simp [show j < bg.length by omega]) rfl
      refine ⟨_, [s0, .val .z (.int h), .val .z (dI cs), .val .z (.nd .lst (bg.map D.bl)), s4, .val .z (.int j), s6, s7, .val .z (.int (atI cs i)), .val .z (.int (firstN (winG cs bg i) h (j + 1)))], rfl, .inl ?_, _, rfl⟩
      cases hg : GA cs (atI cs i) j (bg.getD j false) with
      | true =>
        rw [hg] at hga
        simp [windows_L1, md_goes_ahead, mdOk, resC, backs, putM, putV, hbx, hga, firstN, hg, -List.getD_eq_getElem?_getD]
      | false =>
        rw [hg] at hga
        simp [windows_L1, md_goes_ahead, mdOk, resC, backs, putM, putV, hbx, hga, firstN, hg, -List.getD_eq_getElem?_getD])
    (env := [s0, .val .z (.int h), .val .z (dI cs), .val .z (.nd .lst (bg.map D.bl)), s4, s5, s6, s7, .val .z (.int (atI cs i)), .val .z (.int 0)]) ⟨s5, rfl⟩
  rw [rngD_length] at hgo
  exact ⟨t5, hgo⟩
end K56

set_option linter.all false
set_option maxRecDepth 100000
set_option maxHeartbeats 1000000
namespace K56
open Vt
theorem atI_get {cs : List Int} {i : Nat} {x : Int} (h : cs[i]? = some x) : atI cs i = x := by simp [atI, h]
abbrev spansD (g : Nat → Nat → Bool) (h : Int) (n m : Nat) : D := .nd .lst ((List.range m).map (spanD g h n))
theorem windows_eq (n : Nat) (hn : n ≤ 60) (P : List (List Int)) (H : PilesOk n P) (h : Int) (hh : 1 ≤ h) : windows_D [dP P, .int h] = .ret (.z, spansD (winG P.flatten (begs P)) h n n) [] := by
  have hlen := H.len
  have hbl := begs_len P
  generalize hcs : P.flatten = cs at *
  generalize hbg : begs P = bg at *
  obtain ⟨e', hgo, s4, s5, s7, s8, s9, rfl⟩ := forGo_inv (pt := .tp [(.nm 7), (.nm 8)]) (body := windows_L2) (ds := enumD 0 (cs.map D.int))
    (fun i env => ∃ s4 s5 s7 s8 s9, env = [.val .z (dP P), .val .z (.int h), .val .z (dI cs), .val .z (.nd .lst (bg.map D.bl)), s4, s5, .val (.all .z) (spansD (winG cs bg) h n i), s7, s8, s9])
    (by
      rintro i d env hd ⟨s4, s5, s7, s8, s9, rfl⟩
      obtain ⟨x, hx, rfl⟩ := enumD_mem hd
      rw [List.getElem?_map, Option.map_eq_some_iff] at hx
      obtain ⟨c, hc, rfl⟩ := hx
      rw [Nat.zero_add]
      have hi := (List.getElem?_eq_some_iff.mp hc).1
      have hce := atI_get hc
      obtain ⟨t5, hl⟩ := winL1 cs bg (by omega) (by omega) i hi h (.val .z (dP P)) s4 s5 (.val (.all .z) (spansD (winG cs bg) h n i)) (.val .z (.int i))
      rw [hce] at hl
      have hr : rngOk (i : Int) = true := by simp [rngOk]; omega
      have hil : i < 100000 := by omega
      refine ⟨[.val .z (dP P), .val .z (.int h), .val .z (dI cs), .val .z (.nd .lst (bg.map D.bl)), s4, s5, .val (.all .z) (spansD (winG cs bg) h n i), .val .z (.int i), .val .z (.int c), s9],
        [.val .z (dP P), .val .z (.int h), .val .z (dI cs), .val .z (.nd .lst (bg.map D.bl)), s4, t5, .val (.all .z) (spansD (winG cs bg) h n (i + 1)), .val .z (.int i), .val .z (.int c), .val .z (.int (firstN (winG cs bg i) h i))], by simp, .inl ?_, _, _, _, _, _, rfl⟩
      have hmin : (if h + (i : Int) < (n : Int) then h + (i : Int) else (n : Int)) - 1 = min (n : Int) (h + i) - 1 := by split <;> omega
      simp [windows_L2, hr, hl, gLen, gTup, gApp, hil, retN, List.range_succ, spanD, hlen, hmin])
    (env := [.val .z (dP P), .val .z (.int h), .val .z (dI cs), .val .z (.nd .lst (bg.map D.bl)), .un, .un, .val (.all .z) (.nd .lst []), .un, .un, .un]) ⟨_, _, _, _, _, rfl⟩
  rw [enumD_length, List.length_map, hlen] at hgo
  have c1 := check_piles_eq n P H
  have c2 := check_hand_eq h hh
  have hPl : P.length ≤ 60 := by
    have : ∀ (Q : List (List Int)), (∀ p ∈ Q, p ≠ []) → Q.length ≤ Q.flatten.length := by
      intro Q
      induction Q with
      | nil => intro _; exact Nat.le_refl _
      | cons a Q ih =>
        intro hq
        have h1 := ih (fun p hp => hq p (List.mem_cons_of_mem _ hp))
        have h2 : 0 < a.length := List.length_pos_iff.mpr (hq a List.mem_cons_self)
        rw [List.flatten_cons, List.length_append, List.length_cons]; omega
    have := this P H.ne
    rw [hcs] at this
    omega
  have c3 := joined_eq P (by rw [hcs]; omega) hPl
  rw [hcs] at c3
  have c4 := lc2Go_eq (pt := .nm 4) (pt1 := .nm 5) (cond := pYes) (it1 := pItR1 (pCons (pOpN (g1 gLen) (pCons (pVar 4) pNil)) pNil)) (own1 := [5]) (cond1 := pYes) (elt := pOp2 (gEq false) (pVar 5) (pC (.int 0))) (k := .z)
    (env := [.val .z (dP P), .val .z (.int h), .val .z (dI cs), .un, .un, .un, .un, .un, .un, .un]) (fun d => match d with | .nd _ xs => (List.range xs.length).map fun (i : Nat) => D.bl (decide ((i : Int) = 0)) | _ => []) (P.map dI) (by
    intro d hd
    obtain ⟨p, hp, rfl⟩ := List.mem_map.mp hd
    have hpl : p.length ≤ 60 := by
      have : ∀ (Q : List (List Int)), p ∈ Q → p.length ≤ Q.flatten.length := by
        intro Q
        induction Q with
        | nil => intro h; cases h
        | cons a Q ih =>
          intro hq
          rw [List.flatten_cons, List.length_append]
          rcases List.mem_cons.mp hq with rfl | hq
          · omega
          · have := ih hq; omega
      have := this P hp
      rw [hcs] at this
      omega
    have hr : rngOk (p.length : Int) = true := by simp [rngOk]; omega
    refine ⟨[.val .z (dP P), .val .z (.int h), .val .z (dI cs), .un, .val .z (dI p), .un, .un, .un, .un, .un], rngD 0 p.length, by simp, rfl, by simp [gLen, hr], rfl, ?_⟩
    rw [cmpGo_eq (fun _ => true) (fun d => match d with | .int i => .bl (decide (i = 0)) | _ => .non) (rngD 0 p.length) (fun d hd => by
      simp only [rngD, List.mem_map, List.mem_range] at hd
      obtain ⟨i, _, rfl⟩ := hd
      exact ⟨_, rfl, rfl, fun _ => by simp [wipeE]⟩)]
    have hf : ∀ l : List D, l.filter (fun _ => true) = l := fun l => by simp
    rw [hf]
    simp [rngD])
  have e4 : (P.map dI).flatMap (fun d => match d with | .nd _ xs => (List.range xs.length).map fun (i : Nat) => D.bl (decide ((i : Int) = 0)) | _ => []) = bg.map D.bl := by
    rw [← hbg, List.flatMap_map]
    unfold begs
    rw [List.map_flatMap]
    congr 1
    funext p
    simp
  rw [e4] at c4
  have hbl2 : bg.length ≤ 100000 := by omega
  simp [windows_D, mkF, windows_B, md_windows, md_check_piles, md_check_hand, md_joined, env0, unS, mdOk, resC, backs, putM, putV, c1, c2, c3, c4, hgo, ownZ, wipeE, Sl.zero, hbl2, gLst, zlist, -List.map_flatten]
end K56

set_option linter.all false
set_option maxRecDepth 100000
set_option maxHeartbeats 1000000
namespace K56
open Vt
def LG (last : List Int) (t c : Int) : Bool := match last with
  | [] => decide (min t c = c)
  | l :: _ => if l ≤ t then (if l ≤ c then decide (min t c = c) else decide (t = c)) else if l ≤ c then true else decide (c < t)
theorem goes_eq (last : List Int) (hl : last.length ≤ 1) (t c : Int) : _law_goes_D [dI last, .int t, .int c] = .ret (.z, .bl (LG last t c)) [] := by
  have hp8 : ∀ ns : List Int, ∀ a b c d, gEq false (a, b, dI ns) (c, d, .nd .lst []) = ret (.bl (decide (ns = []))) := fun ns a b c d => by
    rw [eq_pl (plN_dI 7 ns) (by simp [D.plN])]
    simp
  match last, hl with
  | [], _ =>
    have e1 : ∀ a b c d, gEq false (a, b, .nd .lst []) (c, d, .nd .lst []) = ret (.bl true) := fun a b c d => (hp8 [] a b c d).trans (by simp)
    have e2 : ∀ a b c' d, gEq false (a, b, .nd .lst [.int t, .int c]) (c', d, .nd .lst []) = ret (.bl false) := fun a b c' d => (hp8 [t, c] a b c' d).trans (by simp)
    have hc := cmpGo_eq (pt := .nm 4) (cond := (pOr (pTst (pOp2 (gEq false) (pVar 0) (pOpN gLst pNil))) (pTst (pOp2 gGe (pVar 4) (pOp2 gIx (pVar 0) (pC (.int 0))))))) (elt := pVar 4) (k := .z)
      (env := [.val .z (.nd .lst []), .val .z (.int t), .val .z (.int c), .un, .un]) (fun _ => true) (fun d => d) [.int t, .int c] (fun d _ => ⟨_, rfl, by simp [gLst, zlist, e1], fun _ => rfl⟩)
    have hc2 : cmpGo (.nm 4) (pOr (pTst (pOp2 (gEq false) (pVar 0) (pOpN gLst pNil))) (pTst (pOp2 gGe (pVar 4) (pOp2 gIx (pVar 0) (pC (.int 0)))))) (pVar 4) .z [.int t, .int c] [.val .z (.nd .lst []), .val .z (.int t), .val .z (.int c), .un, .un] = some [.int t, .int c] := by
      rw [hc]; simp
    have hmin : minI [t, c] = some (.int (min t c)) := rfl
    show _law_goes_D [.nd .lst [], .int t, .int c] = _
    simp [_law_goes_D, mkF, _law_goes_B, md__law_goes, env0, unS, gLst, zlist, ownZ, wipeE, Sl.zero, hc2, e2, gMinL, gLI, D.lstInts, D.ints, hmin, LG]
  | [l], _ =>
    have e1 : ∀ a b c d, gEq false (a, b, .nd .lst [.int l]) (c, d, .nd .lst []) = ret (.bl false) := fun a b c d => (hp8 [l] a b c d).trans (by simp)
    have e0 : ∀ a b c d, gEq false (a, b, .nd .lst []) (c, d, .nd .lst []) = ret (.bl true) := fun a b c d => (hp8 [] a b c d).trans (by simp)
    have e2 : ∀ a b c' d x ns, gEq false (a, b, .nd .lst (.int x :: ns)) (c', d, .nd .lst []) = if D.isPys ns then gEq false (a, b, .nd .lst (.int x :: ns)) (c', d, .nd .lst []) else gEq false (a, b, .nd .lst (.int x :: ns)) (c', d, .nd .lst []) := fun a b c' d x ns => by split <;> rfl
    have hx : ∀ a b : Bool, gIx (a, .z, .nd .lst [.int l]) (b, .z, .int 0) = ret (.int l) := fun a b => rfl
    have hc := cmpGo_eq (pt := .nm 4) (cond := (pOr (pTst (pOp2 (gEq false) (pVar 0) (pOpN gLst pNil))) (pTst (pOp2 gGe (pVar 4) (pOp2 gIx (pVar 0) (pC (.int 0))))))) (elt := pVar 4) (k := .z)
      (env := [.val .z (.nd .lst [.int l]), .val .z (.int t), .val .z (.int c), .un, .un]) (fun d => match d with | .int x => decide (l ≤ x) | _ => false) (fun d => d) [.int t, .int c] (fun d hd => by
        simp at hd
        rcases hd with rfl | rfl
        · exact ⟨_, rfl, by simp [gLst, zlist, e1, hx], fun _ => rfl⟩
        · exact ⟨_, rfl, by simp [gLst, zlist, e1, hx], fun _ => rfl⟩)
    have m2 : minI [t, c] = some (.int (min t c)) := rfl
    have m1 : ∀ x, minI [x] = some (.int x) := fun _ => rfl
    have e3 : ∀ a b c' d x, gEq false (a, b, .nd .lst [.int x]) (c', d, .nd .lst []) = ret (.bl false) := fun a b c' d x => (hp8 [x] a b c' d).trans (by simp)
    have e4 : ∀ a b c' d, gEq false (a, b, .nd .lst [.int t, .int c]) (c', d, .nd .lst []) = ret (.bl false) := fun a b c' d => (hp8 [t, c] a b c' d).trans (by simp)
    show _law_goes_D [.nd .lst [.int l], .int t, .int c] = _
    by_cases h1 : l ≤ t <;> by_cases h2 : l ≤ c <;> simp [h1, h2] at hc <;>
      simp [_law_goes_D, mkF, _law_goes_B, md__law_goes, env0, unS, gLst, zlist, ownZ, wipeE, Sl.zero, hc, e0, e3, e4, gMinL, gLI, D.lstInts, D.ints, m1, m2, LG, h1, h2]
end K56

set_option linter.all false
set_option maxRecDepth 100000
set_option maxHeartbeats 1000000
namespace K56
open Vt
def lastOf (cs : List Int) (j : Nat) : List Int := if j = 0 then [] else [atI cs ((j : Int) - 1)]
abbrev spG (cs : List Int) (i j : Nat) : Bool := LG (lastOf cs j) (atI cs j) (atI cs i)
theorem cut_last (cs : List Int) (j : Nat) (hj : j < cs.length) : cutD (cs.map D.int) (some (if 1 < (j : Int) then (j : Int) - 1 else 0)) (some (j : Int)) = (lastOf cs j).map D.int := by
  unfold cutD
  rw [HT.sIx_nat]
  by_cases h : j = 0
  · subst h
    simp [lastOf, HT.sIx]
  · have e : (if 1 < (j : Int) then (j : Int) - 1 else 0) = ((j - 1 : Nat) : Int) := by split <;> omega
    rw [e, HT.sIx_nat, List.length_map, Nat.min_eq_left (by omega), Nat.min_eq_left (by omega)]
    have e2 : j - (j - 1) = 1 := by omega
    rw [e2, List.drop_eq_getElem_cons (by rw [List.length_map]; omega)]
    have e3 : atI cs ((j : Int) - 1) = cs[j - 1] := by
      rw [show (j : Int) - 1 = ((j - 1 : Nat) : Int) by omega]
      exact atI_get (by simp [show j - 1 < cs.length by omega])
    simp [lastOf, h, e3]
theorem lastOf_len (cs : List Int) (j : Nat) : (lastOf cs j).length ≤ 1 := by unfold lastOf; split <;> simp
theorem spL2 (cs : List Int) (hn : cs.length ≤ 60) (i : Nat) (hi : i < cs.length) (h : Int) (kk : Kd) (hk : kk = .z ∨ kk = .all .z) (s0 s3 s4 s7 : Sl) :
    ∃ t7, forGo (.nm 7) _law_spans_L2 (rngD 0 i) [s0, .val .z (.int h), .val kk (dI cs), s3, s4, .val .z (.int i), .val .z (.int 0), s7] =
      .nx [s0, .val .z (.int h), .val kk (dI cs), s3, s4, .val .z (.int i), .val .z (.int (firstN (spG cs i) h i)), t7] := by
  obtain ⟨e', hgo, t7, rfl⟩ := forGo_inv (pt := .nm 7) (body := _law_spans_L2) (ds := rngD 0 i)
    (fun j env => ∃ t7, env = [s0, .val .z (.int h), .val kk (dI cs), s3, s4, .val .z (.int i), .val .z (.int (firstN (spG cs i) h j)), t7])
    (by
      rintro j d env hd ⟨t7, rfl⟩
      rw [rngD_get] at hd
      split at hd
      case isFalse => cases hd
      rename_i hj
      cases hd
      rw [Int.zero_add]
      have hga := goes_eq (lastOf cs j) (lastOf_len cs j) (atI cs j) (atI cs i)
      have hkz : ∀ j, (kk.kid j).isZ = true := by rcases hk with rfl | rfl <;> intro _ <;> rfl
      have hkzs : kk.zs cs.length = true := by rcases hk with rfl | rfl <;> rfl
      have ej := fun (a b : Bool) => ixG (a := a) (b := b) (k := kk) (l := .z) (ns := cs) (i := j) (by omega) (by omega) hkz
      have ei := fun (a b : Bool) => ixG (a := a) (b := b) (k := kk) (l := .z) (ns := cs) (i := i) (by omega) (by omega) hkz
      have hcut := cut_last cs j (by omega)
      refine ⟨_, [s0, .val .z (.int h), .val kk (dI cs), s3, s4, .val .z (.int i), .val .z (.int (firstN (spG cs i) h (j + 1))), .val .z (.int j)], rfl, .inl ?_, _, rfl⟩
      cases hg : LG (lastOf cs j) (atI cs j) (atI cs i) with
      | true =>
        rw [hg] at hga
        simp [_law_spans_L2, md__law_goes, mdOk, resC, backs, putM, putV, hkzs, ej, ei, hcut, zlist, hga, firstN, hg]
      | false =>
        rw [hg] at hga
        simp [_law_spans_L2, md__law_goes, mdOk, resC, backs, putM, putV, hkzs, ej, ei, hcut, zlist, hga, firstN, hg])
    (env := [s0, .val .z (.int h), .val kk (dI cs), s3, s4, .val .z (.int i), .val .z (.int 0), s7]) ⟨s7, rfl⟩
  rw [rngD_length] at hgo
  exact ⟨t7, hgo⟩
theorem same_goes (n : Nat) (P : List (List Int)) (H : PilesOk n P) (i j : Nat) (hj : j < i) (hi : i < n) : winG P.flatten (begs P) i j = spG P.flatten i j := by
  have hlen := H.len
  have hbl := begs_len P
  have ch := begs_chain P H.ne H.so H.ds
  have hnd := H.nd
  have hne : atI P.flatten (j : Int) ≠ atI P.flatten (i : Int) := fun e => by
    have := atI_inj hnd ⟨by omega, by omega⟩ ⟨by omega, by omega⟩ e
    omega
  generalize P.flatten = cs at *
  generalize begs P = bg at *
  unfold winG spG GA lastOf
  by_cases h0 : j = 0
  · subst h0
    simp only [if_pos]
    simp only [LG]
    simp only [Int.natCast_zero] at *
    rw [Bool.eq_iff_iff]
    simp
    omega
  · rw [if_neg h0, if_neg h0]
    have e1 : atI cs ((j : Int) - 1) = cs[j - 1]'(by omega) := by
      rw [show (j : Int) - 1 = ((j - 1 : Nat) : Int) by omega]
      exact atI_get (by simp [show j - 1 < cs.length by omega])
    have e2 : atI cs (j : Int) = cs[j]'(by omega) := atI_get (by simp [show j < cs.length by omega])
    have c := ch (j - 1) (cs[j - 1]'(by omega)) (cs[j]'(by omega)) (bg[j]'(by omega)) (by simp) (by rw [show j - 1 + 1 = j by omega]; simp) (by rw [show j - 1 + 1 = j by omega]; simp)
    rw [← e1, ← e2] at c
    have eb : bg.getD j false = bg[j]'(by omega) := by simp [show j < bg.length by omega]
    rw [eb]
    generalize atI cs ((j : Int) - 1) = L at *
    generalize atI cs (j : Int) = t at *
    generalize atI cs (i : Int) = x at *
    cases hb : bg[j]'(by omega) with
    | true =>
      have c1 := c.1 hb
      rw [if_pos rfl]
      simp only [LG]
      rw [if_neg (by omega)]
      split
      · simp; omega
      · simp; omega
    | false =>
      have c1 := c.2 hb
      rw [if_neg (by simp)]
      simp only [LG]
      rw [if_pos c1]
      split
      · rw [Bool.eq_iff_iff]; simp; omega
      · rw [Bool.eq_iff_iff]; simp; omega
end K56

set_option linter.all false
set_option maxRecDepth 100000
set_option maxHeartbeats 1000000
namespace K56
open Vt
theorem take_flat_le {P : List (List Int)} (i : Nat) : (P.take i).flatten.length ≤ P.flatten.length := by
  conv => rhs; rw [← List.take_append_drop i P]
  rw [List.flatten_append, List.length_append]
  omega
theorem spans_eq (n : Nat) (hn : n ≤ 60) (P : List (List Int)) (H : PilesOk n P) (h : Int) : _law_spans_D [dP P, .int h] = .ret (.z, spansD (spG P.flatten) h n n) [] := by
  have hlen := H.len
  obtain ⟨e1, hgo1, k1, s3, hk1, rfl⟩ := forGo_inv (pt := .nm 3) (body := _law_spans_L1) (ds := P.map dI)
    (fun i env => ∃ kk s3, (kk = .z ∨ kk = .all .z) ∧ env = [.val .z (dP P), .val .z (.int h), .val kk (dI (P.take i).flatten), s3, .un, .un, .un, .un])
    (by
      rintro i d env hd ⟨kk, s3, hk, rfl⟩
      rw [List.getElem?_map, Option.map_eq_some_iff] at hd
      obtain ⟨p, hp, rfl⟩ := hd
      have hkzs : ∀ m, kk.zs m = true := by rcases hk with rfl | rfl <;> intro _ <;> rfl
      have l1 := take_flat_le (P := P) (i + 1)
      rw [take_succ' hp, List.flatten_append, List.length_append] at l1
      have l2 : (P.take i).flatten.length + p.length ≤ 100000 := by rw [show [p].flatten = p by simp] at l1; omega
      refine ⟨_, [.val .z (dP P), .val .z (.int h), .val (.all .z) (dI (P.take (i + 1)).flatten), .val .z (dI p), .un, .un, .un, .un], rfl, .inl ?_, _, _, .inr rfl, rfl⟩
      have l3 : (List.map D.int (P.take i).flatten).length + (List.map D.int p).length ≤ 100000 := by rw [List.length_map, List.length_map]; exact l2
      have ec : ∀ a b : Bool, gAdd2 (a, kk, dI (P.take i).flatten) (b, .z, dI p) = zlist (((P.take i).flatten ++ p).map D.int) := fun a b => by
        rw [v_cat, hkzs, decide_eq_true l3, List.map_append]
        simp
      have et : (P.take (i + 1)).flatten = (P.take i).flatten ++ p := by rw [take_succ' hp, List.flatten_append]; simp
      rw [et]
      simp [_law_spans_L1, ec, zlist, -List.map_append, -List.map_flatten, -List.map_take])
    (env := [.val .z (dP P), .val .z (.int h), .val .z (.nd .lst []), .un, .un, .un, .un, .un]) ⟨.z, .un, .inl rfl, rfl⟩
  rw [List.length_map, List.take_length] at hgo1
  generalize hcs : P.flatten = cs at *
  obtain ⟨e2, hgo2, s5, s6, s7, rfl⟩ := forGo_inv (pt := .nm 5) (body := _law_spans_L3) (ds := rngD 0 n)
    (fun i env => ∃ s5 s6 s7, env = [.val .z (dP P), .val .z (.int h), .val k1 (dI cs), s3, .val (.all .z) (spansD (spG cs) h n i), s5, s6, s7])
    (by
      rintro i d env hd ⟨s5, s6, s7, rfl⟩
      rw [rngD_get] at hd
      split at hd
      case isFalse => cases hd
      rename_i hi
      cases hd
      rw [Int.zero_add]
      obtain ⟨t7, hl⟩ := spL2 cs (by omega) i (by omega) h k1 hk1 (.val .z (dP P)) s3 (.val (.all .z) (spansD (spG cs) h n i)) s7
      have hr : rngOk (i : Int) = true := by simp [rngOk]; omega
      have hil : i < 100000 := by omega
      refine ⟨_, [.val .z (dP P), .val .z (.int h), .val k1 (dI cs), s3, .val (.all .z) (spansD (spG cs) h n (i + 1)), .val .z (.int i), .val .z (.int (firstN (spG cs i) h i)), t7], rfl, .inl ?_, _, _, _, rfl⟩
      have hmin : (if h + (i : Int) - 1 < (n : Int) - 1 then h + (i : Int) - 1 else (n : Int) - 1) = min (n : Int) (h + i) - 1 := by split <;> omega
      simp [_law_spans_L3, hr, hl, gLen, gTup, gApp, hil, retN, List.range_succ, spanD, hlen]
      split <;> omega)
    (env := [.val .z (dP P), .val .z (.int h), .val k1 (dI cs), s3, .val (.all .z) (.nd .lst []), .un, .un, .un]) ⟨_, _, _, rfl⟩
  rw [rngD_length] at hgo2
  have hrn : rngOk (n : Int) = true := by simp [rngOk]; omega
  simp [_law_spans_D, mkF, _law_spans_B, md__law_spans, env0, unS, gLst, zlist, hgo1, gLen, hlen, hrn, hgo2]
theorem same_spans (n : Nat) (P : List (List Int)) (H : PilesOk n P) (h : Int) : spansD (winG P.flatten (begs P)) h n n = spansD (spG P.flatten) h n n := by
  have : (List.range n).map (spanD (winG P.flatten (begs P)) h n) = (List.range n).map (spanD (spG P.flatten) h n) := by
    refine List.map_congr_left fun i hi => ?_
    unfold spanD
    rw [firstN_eq i fun j hj => same_goes n P H i j hj (List.mem_range.mp hi)]
  exact congrArg (D.nd .lst) this
/-! _law_like -/
theorem like_int (f : Nat) (i : Int) : _law_like_D (f + 1) [.int i, .int i] = .ret (.z, .bl true) [] := by
  have e1 : ∀ a b c d, gIsN false (a, b, .int i) (c, d, .non) = ret (.bl false) := fun _ _ _ _ => rfl
  have e2 : ∀ a b, gIsi "bool" (a, b, .int i) = ret (.bl false) := fun _ _ => rfl
  have e3 : ∀ a b, gIsi "int" (a, b, .int i) = ret (.bl true) := fun _ _ => rfl
  simp [_law_like_D, mkF, _law_like_B, md__law_like, env0, unS, e1, e2, e3]
theorem like_seq (f : Nat) (sh : Sh) (hs : sh = .lst ∨ sh = .tup) (ds : List D) (hl : ds.length ≤ 100000) (hd : ∀ d ∈ ds, _law_like_D f [d, d] = .ret (.z, .bl true) []) : _law_like_D (f + 1) [.nd sh ds, .nd sh ds] = .ret (.z, .bl true) [] := by
  have e1 : ∀ a b c d, gIsN false (a, b, .nd sh ds) (c, d, .non) = ret (.bl false) := fun _ _ _ _ => rfl
  have e2 : ∀ a b, gIsi "bool" (a, b, .nd sh ds) = ret (.bl false) := fun _ _ => by rcases hs with rfl | rfl <;> rfl
  have e3 : ∀ a b, gIsi "int" (a, b, .nd sh ds) = ret (.bl false) := fun _ _ => by rcases hs with rfl | rfl <;> rfl
  obtain ⟨bl, e4⟩ : ∃ bl, ∀ a b, gIsi "list" (a, b, .nd sh ds) = ret (.bl bl) := by rcases hs with rfl | rfl <;> exact ⟨_, fun _ _ => rfl⟩
  obtain ⟨bt, e5⟩ : ∃ bt, ∀ a b, gIsi "tuple" (a, b, .nd sh ds) = ret (.bl bt) := by rcases hs with rfl | rfl <;> exact ⟨_, fun _ _ => rfl⟩
  have e6 : ∀ a b, gLen (a, b, .nd sh ds) = ret (.int ds.length) := fun _ _ => by rcases hs with rfl | rfl <;> rfl
  have hr : rngOk (ds.length : Int) = true := by simp [rngOk]; omega
  obtain ⟨e', hgo, s2, rfl⟩ := forGo_inv (pt := .nm 2) (body := _law_like_L1 (_law_like_D f)) (ds := rngD 0 ds.length)
    (fun i env => ∃ s2, env = [.val .z (.nd sh ds), .val .z (.nd sh ds), s2])
    (by
      rintro i d env hd' ⟨s2, rfl⟩
      rw [rngD_get] at hd'
      split at hd'
      case isFalse => cases hd'
      rename_i hi
      cases hd'
      rw [Int.zero_add]
      have hx : ∀ a b : Bool, gIx (a, .z, .nd sh ds) (b, .z, .int (i : Int)) = ret ds[i] := fun a b => by
        rcases hs with rfl | rfl
        · exact v_ix (j := i) (by rw [ixN_nat, if_pos hi]) (by simp [hi]) rfl
        · exact v_ixT (j := i) (by rw [ixN_nat, if_pos hi]) (by simp [hi]) rfl
      have hh := hd ds[i] (List.getElem_mem hi)
      refine ⟨_, [.val .z (.nd sh ds), .val .z (.nd sh ds), .val .z (.int i)], rfl, .inl ?_, _, rfl⟩
      simp [_law_like_L1, md__law_like, mdOk, resC, backs, putM, putV, hx, hh])
    (env := [.val .z (.nd sh ds), .val .z (.nd sh ds), .un]) ⟨_, rfl⟩
  cases bl <;> cases bt <;> simp [_law_like_D, mkF, _law_like_B, md__law_like, env0, unS, e1, e2, e3, e4, e5, e6, hr, hgo]
theorem like_spans (g : Nat → Nat → Bool) (h : Int) (n : Nat) (hn : n ≤ 60) : _law_like_D 8 [spansD g h n n, spansD g h n n] = .ret (.z, .bl true) [] := by
  refine like_seq 7 .lst (.inl rfl) _ (by simp; omega) fun d hd => ?_
  obtain ⟨i, _, rfl⟩ := List.mem_map.mp hd
  refine like_seq 6 .tup (.inr rfl) _ (by simp) fun d hd => ?_
  simp at hd
  rcases hd with rfl | rfl <;> exact like_int 5 _
end K56

set_option linter.all false
set_option maxRecDepth 100000
set_option maxHeartbeats 1000000
namespace K56
open Vt
def law_R : SX := (seqS (asgP (.tp [(.nm 5), (.nm 6)]) (callM md__law_told _law_told_D [.m 3, .v 4]))
    (seqS (asgS 7 false (mOp2 gIx (mOpN gLst (mCons (mP (pVar 6)) (mCons (callM md__law_size _law_size_D [.m 3, .v 4]) mNil))) (callM md__law_take _law_take_D [.m 3, .e (mP (pC (.int 2)))])))
    (seqS (asgS 8 true (mP (pComp [9] (pItL (pVar 5)) (.nm 9) pYes .z (pFz (pOpN (g1 gList) (pCons (pVar 9) pNil))))))
    (seqS (asgS 10 false (callM md__law_spans _law_spans_D [.v 5, .v 7]))
    (seqS (ifS (mOr (mNot (mtTru (callM md__law_like (_law_like_D 8) [.e (callM md_windows windows_D [.v 8, .v 7]), .v 10]))) (mtP (pTst (pOp2 (gEq true) (pVar 8) (pVar 5))))) (rtS false (mP (pC (.bl false)))) passS)
    (ifS (mOr (mNot (mtTru (callM md__law_like (_law_like_D 8) [.e (callK md_windows windows_D [.v 7, .v 8] [1, 0]), .v 10]))) (mtP (pTst (pOp2 (gEq true) (pVar 8) (pVar 5))))) (rtS false (mP (pC (.bl false)))) passS))))))
theorem law_L1_eq : law_L1 = seqS (asgS 3 false (callM md__law_pool _law_pool_D [.v 2, .v 1])) (seqS (asgS 4 false (callM md__law_take _law_take_D [.m 3, .e (mP (pC (.int 13)))])) (seqS (ifS (mAnd (mtP (pTst (pOp2 (gEq false) (pVar 4) (pC (.int 12))))) (mtTst (mOp2 (gEq false) (callM md__law_take _law_take_D [.m 3, .e (mP (pC (.int 2)))]) (mP (pC (.int 1)))))) (asgS 4 false (mP (pC (.int 60)))) passS) law_R)) := rfl
theorem law_rest (sc : D) (q : Int) (m : Nat) (hm : m ≤ 60) (s1 s2 s5 s6 s7 s8 s10 : Sl) :
    ∃ t3 t5 t6 t7 t8 t10, law_R [.val .z sc, s1, s2, .val (.all .z) (.nd .lst [.int q]), .val .z (.int m), s5, s6, s7, s8, .un, s10] = .nx [.val .z sc, s1, s2, t3, .val .z (.int m), t5, t6, t7, t8, .un, t10] := by
  obtain ⟨P, f, q1, H, hf, h1⟩ := told_D q m hm
  obtain ⟨s, q2, hs, h2⟩ := size_D q1 m hm
  have t2 := take_D q2 2 (by decide) (by decide +kernel)
  obtain ⟨z, hz1, hz⟩ : ∃ z : Int, 1 ≤ z ∧ ∀ b : Bool, gIx (b, .all .z, .nd .lst [.int f, .int s]) (false, .z, .int (q2 % 2)) = ret (.int z) := by
    have h : q2 % 2 = 0 ∨ q2 % 2 = 1 := by omega
    rcases h with h | h <;> rw [h]
    · exact ⟨f, hf, fun _ => rfl⟩
    · exact ⟨s, hs, fun _ => rfl⟩
  have w1 := windows_eq m hm P H z hz1
  rw [same_spans m P H z] at w1
  have w2 := spans_eq m hm P H z
  have w3 := like_spans (spG P.flatten) z m hm
  have hPl : P.length ≤ 60 := by
    have : ∀ (Q : List (List Int)), (∀ p ∈ Q, p ≠ []) → Q.length ≤ Q.flatten.length := by
      intro Q
      induction Q with
      | nil => intro _; exact Nat.le_refl _
      | cons a Q ih =>
        intro hq
        have h1 := ih (fun p hp => hq p (List.mem_cons_of_mem _ hp))
        have h2 : 0 < a.length := List.length_pos_iff.mpr (hq a List.mem_cons_self)
        rw [List.flatten_cons, List.length_append, List.length_cons]; omega
    have := this P H.ne
    have := H.len
    omega
  have hne : ∀ a b c d, gEq true (a, b, dP P) (c, d, dP P) = ret (.bl false) := fun a b c d => by
    rw [ne_pl (by simp [D.plN]) (by simp [D.plN])]
    simp
  have hc : ∀ s7, cmpGo (.nm 9) pYes (pFz (pOpN (g1 gList) (pCons (pVar 9) pNil))) .z (P.map dI) [.val .z sc, s1, s2, .val (.all .z) (.nd .lst [.int (q2 / 2)]), .val .z (.int m), .val .z (dP P), .val .z (.int f), s7, s8, .un, s10] = some (P.map dI) := fun s7 => by
    rw [cmpGo_eq (fun _ => true) (fun d => d) (P.map dI) (fun d hd => by
      obtain ⟨p, hp, rfl⟩ := List.mem_map.mp hd
      exact ⟨_, rfl, rfl, fun _ => by simp [gList, zlist]⟩)]
    simp
  have hPl2 : P.length ≤ 100000 := by omega
  refine ⟨.val (.all .z) (.nd .lst [.int (q2 / 2)]), .val .z (dP P), .val .z (.int f), .val .z (.int z), .val .z (dP P), .val .z (spansD (spG P.flatten) z m m), ?_⟩
  simp [law_R, md__law_told, md__law_size, md__law_take, md__law_spans, md__law_like, md_windows, mdOk, resC, backs, putM, putV, permL, h1, h2, t2, hz, w1, w2, w3, hne, hc, gLst, zlist, ownZ, wipeE, Sl.zero, hPl2, -List.map_flatten, -List.length_flatten]
end K56

set_option linter.all false
set_option maxRecDepth 100000
set_option maxHeartbeats 1000000
namespace K56
open Vt
theorem law_step (sc : D) (t : Nat) (ht : t ≤ 64) (c : Int) (hc : c.natAbs.log2 ≤ 1048576) (s3 s4 s5 s6 s7 s8 s10 : Sl) :
    ∃ t3 t4 t5 t6 t7 t8 t10, law_L1 [.val .z sc, .val .z (.int t), .val .z (.int c), s3, s4, s5, s6, s7, s8, .un, s10] = .nx [.val .z sc, .val .z (.int t), .val .z (.int c), t3, t4, t5, t6, t7, t8, .un, t10] := by
  obtain ⟨p, h1⟩ := pool_D c t ht hc
  have t13 := take_D p 13 (by decide) (by decide +kernel)
  have t2 := take_D (p / 13) 2 (by decide) (by decide +kernel)
  rw [law_L1_eq]
  have hm0 := Int.emod_nonneg p (show (13 : Int) ≠ 0 by decide)
  have hm1 := Int.emod_lt_of_pos p (show (0 : Int) < 13 by decide)
  by_cases h12 : p % 13 = 12
  · by_cases hb : p / 13 % 2 = 1
    · obtain ⟨t3, t5, t6, t7, t8, t10, e⟩ := law_rest sc (p / 13 / 2) 60 (by decide) (.val .z (.int t)) (.val .z (.int c)) s5 s6 s7 s8 s10
      rw [show ((60 : Nat) : Int) = 60 from rfl] at e
      refine ⟨t3, .val .z (.int 60), t5, t6, t7, t8, t10, ?_⟩
      simp [md__law_pool, md__law_take, mdOk, resC, backs, putM, putV, h1, t13, t2, h12, hb, e]
    · obtain ⟨t3, t5, t6, t7, t8, t10, e⟩ := law_rest sc (p / 13 / 2) 12 (by decide) (.val .z (.int t)) (.val .z (.int c)) s5 s6 s7 s8 s10
      rw [show ((12 : Nat) : Int) = 12 from rfl] at e
      refine ⟨t3, .val .z (.int 12), t5, t6, t7, t8, t10, ?_⟩
      simp [md__law_pool, md__law_take, mdOk, resC, backs, putM, putV, h1, t13, t2, h12, hb, e]
  · obtain ⟨m, hm⟩ := Int.eq_ofNat_of_zero_le hm0
    obtain ⟨t3, t5, t6, t7, t8, t10, e⟩ := law_rest sc (p / 13) m (by omega) (.val .z (.int t)) (.val .z (.int c)) s5 s6 s7 s8 s10
    refine ⟨t3, .val .z (.int m), t5, t6, t7, t8, t10, ?_⟩
    rw [hm] at h12
    simp [md__law_pool, md__law_take, mdOk, resC, backs, putM, putV, h1, t13, t2, hm, h12, e]
theorem law_eq (ns : List Int) (hl : ns.length ≤ 63) (hb : ∀ z ∈ ns, z.natAbs.log2 ≤ 1048576) : law_D [.nd .scr (ns.map D.int)] = .ret (.z, .bl true) [] := by
  obtain ⟨e', hgo, s1, s2, s3, s4, s5, s6, s7, s8, s10, rfl⟩ := forGo_inv (pt := .tp [(.nm 1), (.nm 2)]) (body := law_L1) (ds := enumD 0 (((ns.length : Int) :: ns.take 6).map D.int))
    (fun i env => ∃ s1 s2 s3 s4 s5 s6 s7 s8 s10, env = [.val .z (.nd .scr (ns.map D.int)), s1, s2, s3, s4, s5, s6, s7, s8, .un, s10])
    (by
      rintro i d env hd ⟨s1, s2, s3, s4, s5, s6, s7, s8, s10, rfl⟩
      obtain ⟨x, hx, rfl⟩ := enumD_mem hd
      rw [List.getElem?_map, Option.map_eq_some_iff] at hx
      obtain ⟨c, hc, rfl⟩ := hx
      rw [Nat.zero_add]
      have hi := (List.getElem?_eq_some_iff.mp hc).1
      have hi2 : i ≤ 64 := by simp at hi; omega
      have hcl : c.natAbs.log2 ≤ 1048576 := by
        rcases List.mem_cons.mp (List.mem_of_getElem? hc) with rfl | h
        · exact Nat.le_trans (log2_of (n := 5) (by omega)) (by decide)
        · exact hb c (List.mem_of_mem_take h)
      obtain ⟨t3, t4, t5, t6, t7, t8, t10, e⟩ := law_step (.nd .scr (ns.map D.int)) i hi2 c hcl s3 s4 s5 s6 s7 s8 s10
      refine ⟨_, _, ?_, .inl e, _, _, _, _, _, _, _, _, _, rfl⟩
      simp)
    (env := [.val .z (.nd .scr (ns.map D.int)), .un, .un, .un, .un, .un, .un, .un, .un, .un, .un]) ⟨_, _, _, _, _, _, _, _, _, rfl⟩
  have hcut : cutD (ns.map D.int) none (some 6) = (ns.take 6).map D.int := by
    unfold cutD
    rw [show (6 : Int) = ((6 : Nat) : Int) by rfl, HT.sIx_nat, HT.sIx_none]
    rw [List.drop_zero, Nat.sub_zero, List.map_take, List.take_eq_take_iff]
    omega
  have hlt : (List.take 6 ns).length ≤ 6 := by simp; omega
  have ec : ∀ k l : Kd, (k = .all .z) → (l = .all .z) → gAdd2 (false, k, .nd .lst [.int (ns.length : Int)]) (false, l, .nd .lst ((ns.take 6).map D.int)) = zlist (((ns.length : Int) :: ns.take 6).map D.int) := fun k l h1 h2 => by
    subst h1 h2
    rw [v_cat]
    simp
    omega
  simp [law_D, mkF, law_B, md_law, env0, unS, gLen, gLst, hcut, ec, zlist, hgo, -List.map_take, -List.map_cons]
end K56

namespace K56
open PySem L2 Vt
/-- no list stands in the written part -/
def noList (K : PySem.W.Frag) : Bool := K.all fun p => match p.2.cls with
  | .type s => s != "list"
  | _ => true
theorem lookup_mem {α : Type} : ∀ {l : List (Addr × α)} {a : Addr} {o : α}, l.lookup a = some o → (a, o) ∈ l
  | [], _, _, h => by cases h
  | (b, p) :: l, a, o, h => by
    rw [List.lookup_cons] at h
    split at h
    · rename_i e
      cases h
      rw [beq_iff_eq.mp e]
      exact List.mem_cons_self
    · exact List.mem_cons_of_mem _ (lookup_mem h)
theorem seq_frz {K : PySem.W.Frag} {H : Hp} {a : Addr} {xs : List V} (hK : noList K = true) (hO : Only H) (h : SqL K H a xs) : ∃ o, H a = some (.frz o (.lst xs)) := by
  rcases h with (h | ⟨o, h⟩) | ⟨o, its, n, h1, h2, _⟩
  · rcases hO a with q | ⟨o, ys, q⟩
    · rw [q] at h; cases h
    · rw [q] at h; cases h
  · exact ⟨o, h⟩
  · exfalso
    have := List.all_eq_true.mp hK _ (lookup_mem h1)
    dsimp only at this
    rw [h2] at this
    simp at this
theorem walk {l : PySem.W.OpenLaw} {q : Program} {loose : List Str} {XP : (Str → Option Value) → Heap → Prop} {YP : World → Heap → Prop} {d : DefRec} {K : Params → PySem.W.Frag} (hn : l.most = some 63) (hdf : d.params.defaults = [])
    (hY : ∀ (w : World) (h : Heap), YP w h → (K w.params).In h) (hK : ∀ w : World, noList (K w.params) = true)
    (F : ∀ (w : World) (mg : Str → Option Value) (fa : Addr) (h : Heap), (K w.params).In h → h.Ns mainGlobals mg → mg d.name = some (.ref fa) →
      ∃ fd : FuncData, (∀ (s : Shared) (u : Value), BindsTo s fd ⟨[u], []⟩ [("script", u)]) ∧ ∀ base : Heap, (K w.params).In base → base.Ns mainGlobals mg → FnOk l.prog w (K w.params) mg base CX0 9 fa fd ["script"] (spF md_law law_D)) :
    PySem.W.WalkO q loose XP YP l.row.toRowW d [] (fun f vs => PySem.call f vs) :=
  L2.walk_ofB (n := 63) (k := 9) (x := "script") (CX := fun _ => CX0) (sp := fun _ => spF md_law law_D) hn (by decide) hdf ⟨rfl, by decide, by decide⟩ hY F (fun w H a ns hl hb hO hS => by
    obtain ⟨o, hf⟩ := seq_frz (hK w) hO hS
    have hr : Rf H (.nd .scr (ns.map D.int)) (.ref a) := ⟨a, 0, ns.map V.int, rfl, ⟨o, hf⟩, trivial, RfL.ofInts ns⟩
    have e := law_eq ns hl fun z hz => by
      have h1 := hb z hz
      by_cases hz : z = 0
      · subst hz; simp
      · unfold Builtin.Int.intBits at h1
        first | omega | (split at h1 <;> omega) | (simp [hz] at h1; omega)
    refine ⟨H, fun _ => none, [.nd .scr (ns.map D.int)], fun _ => 0, rfl, rfl, ⟨Ex.refl _, fun _ _ h => (by cases h), fun _ _ h _ => h, fun _ _ h => (by cases h), ⟨rfl, fun _ => rfl⟩, ⟨fun _ => 0, fun _ => 0, Rk.z hr, fun _ => rfl, fun _ => rfl⟩, fun _ => Nat.zero_le _, fun _ h => absurd h (by decide), fun _ h => absurd h (by decide)⟩, ?_⟩
    rw [e]
    intro H' H0' u ft' _ s
    obtain ⟨f1, f2, h1, _⟩ := s.tmp
    exact (Rk.z_iff.mp h1).1) fun _ _ _ _ _ z => z
end K56
open PySem PySem.W PyProof.Rows in
set_option maxRecDepth 100000 in
set_option maxHeartbeats 0 in
theorem PySem.Challenge.cw_handpiles_k56_windows_holds : PySem.Challenge.rw_handpiles_k56_windows.Holds := by
  w_on; o_law; k_head; (case hw => w_witness2)
  k_fill
  refine K56.walk (l := PySem.Challenge.rw_handpiles_k56_windows) rfl rfl (fun w h Y => PySem.W.kIn_of Y) ?hK ?F
  case hK =>
    intro w
    first | kernel_rfl | rfl
  case F =>
    intro w mg fa h KX G hmg
    refine' K56.all_mk KX G hmg ?a0 ?l0 ?c0 ?k0 ?a1 ?l1 ?c1 ?k1 ?a2 ?l2 ?c2 ?k2 ?a3 ?l3 ?c3 ?k3 ?a4 ?l4 ?c4 ?k4 ?a5 ?l5 ?c5 ?k5 ?a6 ?l6 ?c6 ?k6 ?a7 ?l7 ?c7 ?k7 ?a8 ?l8 ?c8 ?k8 ?a9 ?l9 ?c9 ?k9 ?a10 ?l10 ?c10 ?k10 ?a11 ?l11 ?c11 ?k11 ?a12 ?l12 ?c12 ?k12 ?a13 ?l13 ?c13 ?k13 ?a14 ?l14 ?c14 ?k14 ?a15 ?l15 ?c15 ?k15 ?n_bool ?n_enumerate ?n_int ?n_isinstance ?n_len ?n_list ?n_max ?n_min ?n_range ?n_sorted ?n_tuple
    (case a0 => k_is)
    (case l0 => k_is)
    (case c0 => k_is)
    (case k0 => k_is)
    (case a1 => k_is)
    (case l1 => k_is)
    (case c1 => k_is)
    (case k1 => k_is)
    (case a2 => k_is)
    (case l2 => k_is)
    (case c2 => k_is)
    (case k2 => k_is)
    (case a3 => k_is)
    (case l3 => k_is)
    (case c3 => k_is)
    (case k3 => k_is)
    (case a4 => k_is)
    (case l4 => k_is)
    (case c4 => k_is)
    (case k4 => k_is)
    (case a5 => k_is)
    (case l5 => k_is)
    (case c5 => k_is)
    (case k5 => k_is)
    (case a6 => k_is)
    (case l6 => k_is)
    (case c6 => k_is)
    (case k6 => k_is)
    (case a7 => k_is)
    (case l7 => k_is)
    (case c7 => k_is)
    (case k7 => k_is)
    (case a8 => k_is)
    (case l8 => k_is)
    (case c8 => k_is)
    (case k8 => k_is)
    (case a9 => k_is)
    (case l9 => k_is)
    (case c9 => k_is)
    (case k9 => k_is)
    (case a10 => k_is)
    (case l10 => k_is)
    (case c10 => k_is)
    (case k10 => k_is)
    (case a11 => k_is)
    (case l11 => k_is)
    (case c11 => k_is)
    (case k11 => k_is)
    (case a12 => k_is)
    (case l12 => k_is)
    (case c12 => k_is)
    (case k12 => k_is)
    (case a13 => k_is)
    (case l13 => k_is)
    (case c13 => k_is)
    (case k13 => k_is)
    (case a14 => k_is)
    (case l14 => k_is)
    (case c14 => k_is)
    (case k14 => k_is)
    (case a15 => k_is)
    (case l15 => k_is)
    (case c15 => k_is)
    (case k15 => k_is)
    (case n_bool => k_is)
    (case n_enumerate => k_is)
    (case n_int => k_is)
    (case n_isinstance => k_is)
    (case n_len => k_is)
    (case n_list => k_is)
    (case n_max => k_is)
    (case n_min => k_is)
    (case n_range => k_is)
    (case n_sorted => k_is)
    (case n_tuple => k_is)
